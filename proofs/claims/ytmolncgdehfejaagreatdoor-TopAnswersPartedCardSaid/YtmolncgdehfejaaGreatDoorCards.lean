/-
  DERIVED. GIVEN WITH THE SEED: THE CARDS: each row of YtmolncgdehfejaaGreatDoorRows.lean that lists a variable, with what it lists TIED to the program's text (the seventh form; the later family's looks); each row that meets fmt, with fmt's text TOLD by the authors' own Lean function (tested against real Go, not proved from fmt's source: count such statements apart). THE CARD IS WHAT COUNTS. Prove the row's statement (the work); the ties are given (YtmolncgdehfejaaGreatDoorTie.lean); close each card by the builder's one call (the guide's Derived/Test/ToyasCard.lean, 'card_holds'). Laid BY PROGRAM, IN A SANDBOX (cutbox-door.mjs). By AI agents, Wed Nov 11 2026. No macro, syntax, notation, axiom, sorry.
-/
import Derived.Test.YtmolncgdehfejaaGreatDoorRows
import GoSem.ClaimSeven
namespace Go.Proofs.YtmolncgdehfejaaGreatDoor
namespace Rows

/-- THE TIED CARD OF 'tinttop.TopAnswersParted'. -/
def topAnswersPartedCard : Claim7 := { stood := { row := topAnswersPartedRow, standIns := [], harness := (true, "178fb850cf2c0d96675949065ca27c8cb0c60894bd18123ed2e3c4b96f1059bc"), looks := true }, kinds := [], alts := [], laidByText := true, laidKinds := [.data, .data, .data, .data, .sentinel, .sentinel, .pinned], laidTests := true, laidLooks := .later }
def TopAnswersPartedCardSaid : Prop := Claim7.holds Tryz.pinned (.plain (OpenSpec.ofChange topAnswersPartedSpec)) topAnswersPartedCard

/-- THE TIED CARD OF 'tinttop.TopCondsKept'. -/
def topCondsKeptCard : Claim7 := { stood := { row := topCondsKeptRow, standIns := [], harness := (true, "178fb850cf2c0d96675949065ca27c8cb0c60894bd18123ed2e3c4b96f1059bc"), looks := true }, kinds := [], alts := [], laidByText := true, laidKinds := [.data, .data, .data, .data, .sentinel, .sentinel, .pinned], laidTests := true, laidLooks := .later }
def TopCondsKeptCardSaid : Prop := Claim7.holds Tryz.pinned (.plain (OpenSpec.ofChange topCondsKeptSpec)) topCondsKeptCard

/-- THE TIED CARD OF 'tinttop.TopCondsDenied'. -/
def topCondsDeniedCard : Claim7 := { stood := { row := topCondsDeniedRow, standIns := [], harness := (true, "178fb850cf2c0d96675949065ca27c8cb0c60894bd18123ed2e3c4b96f1059bc"), looks := true }, kinds := [], alts := [], laidByText := true, laidKinds := [.data, .data, .data, .data, .sentinel, .sentinel, .pinned], laidTests := true, laidLooks := .later }
def TopCondsDeniedCardSaid : Prop := Claim7.holds Tryz.pinned (.plain (OpenSpec.ofChange topCondsDeniedSpec)) topCondsDeniedCard

/-- THE TIED CARD OF 'tinttop.TopCondsFlat'. -/
def topCondsFlatCard : Claim7 := { stood := { row := topCondsFlatRow, standIns := [], harness := (true, "178fb850cf2c0d96675949065ca27c8cb0c60894bd18123ed2e3c4b96f1059bc"), looks := true }, kinds := [], alts := [], laidByText := true, laidKinds := [.data, .data, .data, .data, .sentinel, .sentinel, .pinned], laidTests := true, laidLooks := .later }
def TopCondsFlatCardSaid : Prop := Claim7.holds Tryz.pinned (.plain (OpenSpec.ofChange topCondsFlatSpec)) topCondsFlatCard

/-- THE TIED CARD OF 'tinttop.TopCondsAbsorbed'. -/
def topCondsAbsorbedCard : Claim7 := { stood := { row := topCondsAbsorbedRow, standIns := [], harness := (true, "178fb850cf2c0d96675949065ca27c8cb0c60894bd18123ed2e3c4b96f1059bc"), looks := true }, kinds := [], alts := [], laidByText := true, laidKinds := [.data, .data, .data, .data, .sentinel, .sentinel, .pinned], laidTests := true, laidLooks := .later }
def TopCondsAbsorbedCardSaid : Prop := Claim7.holds Tryz.pinned (.plain (OpenSpec.ofChange topCondsAbsorbedSpec)) topCondsAbsorbedCard

/-- THE TIED CARD OF 'tinttop.TopCondsDistributed'. -/
def topCondsDistributedCard : Claim7 := { stood := { row := topCondsDistributedRow, standIns := [], harness := (true, "178fb850cf2c0d96675949065ca27c8cb0c60894bd18123ed2e3c4b96f1059bc"), looks := true }, kinds := [], alts := [], laidByText := true, laidKinds := [.data, .data, .data, .data, .sentinel, .sentinel, .pinned], laidTests := true, laidLooks := .later }
def TopCondsDistributedCardSaid : Prop := Claim7.holds Tryz.pinned (.plain (OpenSpec.ofChange topCondsDistributedSpec)) topCondsDistributedCard

/-- THE TIED CARD OF 'tinttop.TopSpansParted'. -/
def topSpansPartedCard : Claim7 := { stood := { row := topSpansPartedRow, standIns := [], harness := (true, "178fb850cf2c0d96675949065ca27c8cb0c60894bd18123ed2e3c4b96f1059bc"), looks := true }, kinds := [], alts := [], laidByText := true, laidKinds := [.data, .data, .data, .data, .sentinel, .sentinel, .pinned], laidTests := true, laidLooks := .later }
def TopSpansPartedCardSaid : Prop := Claim7.holds Tryz.pinned (.plain (OpenSpec.ofChange topSpansPartedSpec)) topSpansPartedCard

/-- THE TIED CARD OF 'tinttop.TopBoxesParted'. -/
def topBoxesPartedCard : Claim7 := { stood := { row := topBoxesPartedRow, standIns := [], harness := (true, "178fb850cf2c0d96675949065ca27c8cb0c60894bd18123ed2e3c4b96f1059bc"), looks := true }, kinds := [], alts := [], laidByText := true, laidKinds := [.data, .data, .data, .data, .sentinel, .sentinel, .pinned], laidTests := true, laidLooks := .later }
def TopBoxesPartedCardSaid : Prop := Claim7.holds Tryz.pinned (.plain (OpenSpec.ofChange topBoxesPartedSpec)) topBoxesPartedCard

/-- THE TIED CARD OF 'tinttop.TopPlacesImplied'. -/
def topPlacesImpliedCard : Claim7 := { stood := { row := topPlacesImpliedRow, standIns := [], harness := (true, "178fb850cf2c0d96675949065ca27c8cb0c60894bd18123ed2e3c4b96f1059bc"), looks := true }, kinds := [], alts := [], laidByText := true, laidKinds := [.data, .data, .data, .data, .sentinel, .sentinel, .pinned], laidTests := true, laidLooks := .later }
def TopPlacesImpliedCardSaid : Prop := Claim7.holds Tryz.pinned (.plain (OpenSpec.ofChange topPlacesImpliedSpec)) topPlacesImpliedCard

/-- THE TIED CARD OF 'tinttop.TopShapesApart'. -/
def topShapesApartCard : Claim7 := { stood := { row := topShapesApartRow, standIns := [], harness := (true, "178fb850cf2c0d96675949065ca27c8cb0c60894bd18123ed2e3c4b96f1059bc"), looks := true }, kinds := [], alts := [], laidByText := true, laidKinds := [.data, .data, .data, .data, .sentinel, .sentinel, .pinned], laidTests := true, laidLooks := .later }
def TopShapesApartCardSaid : Prop := Claim7.holds Tryz.pinned (.plain (OpenSpec.ofChange topShapesApartSpec)) topShapesApartCard

/-- THE TIED CARD OF 'tinttop.TopSortsMore'. -/
def topSortsMoreCard : Claim7 := { stood := { row := topSortsMoreRow, standIns := [], harness := (true, "178fb850cf2c0d96675949065ca27c8cb0c60894bd18123ed2e3c4b96f1059bc"), looks := true }, kinds := [], alts := [], laidByText := true, laidKinds := [.data, .data, .data, .data, .sentinel, .sentinel, .pinned], laidTests := true, laidLooks := .later }
def TopSortsMoreCardSaid : Prop := Claim7.holds Tryz.pinned (.plain (OpenSpec.ofChange topSortsMoreSpec)) topSortsMoreCard

/-- THE TIED CARD OF 'tinttop.TopCondsTurned'. -/
def topCondsTurnedCard : Claim7 := { stood := { row := topCondsTurnedRow, standIns := [], harness := (true, "178fb850cf2c0d96675949065ca27c8cb0c60894bd18123ed2e3c4b96f1059bc"), looks := true }, kinds := [], alts := [], laidByText := true, laidKinds := [.data, .data, .data, .data, .sentinel, .sentinel, .pinned], laidTests := true, laidLooks := .later }
def TopCondsTurnedCardSaid : Prop := Claim7.holds Tryz.pinned (.plain (OpenSpec.ofChange topCondsTurnedSpec)) topCondsTurnedCard

/-- THE SECOND FORM's CARD OF 'tinttop.TopAnswersParted'. -/
def topAnswersPartedUptoCard : Claim7 := { stood := { row := topAnswersPartedUptoRow, standIns := [], harness := (true, "178fb850cf2c0d96675949065ca27c8cb0c60894bd18123ed2e3c4b96f1059bc"), looks := true }, kinds := [], alts := [], laidByText := true, laidKinds := [.data, .data, .data, .data, .sentinel, .sentinel, .pinned], laidTests := true, laidLooks := .later }
def TopAnswersPartedUptoCardSaid : Prop := Claim7.holds Tryz.pinned (.plain (OpenSpec.upto topAnswersPartedSpec)) topAnswersPartedUptoCard

/-- THE SECOND FORM's CARD OF 'tinttop.TopCondsKept'. -/
def topCondsKeptUptoCard : Claim7 := { stood := { row := topCondsKeptUptoRow, standIns := [], harness := (true, "178fb850cf2c0d96675949065ca27c8cb0c60894bd18123ed2e3c4b96f1059bc"), looks := true }, kinds := [], alts := [], laidByText := true, laidKinds := [.data, .data, .data, .data, .sentinel, .sentinel, .pinned], laidTests := true, laidLooks := .later }
def TopCondsKeptUptoCardSaid : Prop := Claim7.holds Tryz.pinned (.plain (OpenSpec.upto topCondsKeptSpec)) topCondsKeptUptoCard

/-- THE SECOND FORM's CARD OF 'tinttop.TopCondsDenied'. -/
def topCondsDeniedUptoCard : Claim7 := { stood := { row := topCondsDeniedUptoRow, standIns := [], harness := (true, "178fb850cf2c0d96675949065ca27c8cb0c60894bd18123ed2e3c4b96f1059bc"), looks := true }, kinds := [], alts := [], laidByText := true, laidKinds := [.data, .data, .data, .data, .sentinel, .sentinel, .pinned], laidTests := true, laidLooks := .later }
def TopCondsDeniedUptoCardSaid : Prop := Claim7.holds Tryz.pinned (.plain (OpenSpec.upto topCondsDeniedSpec)) topCondsDeniedUptoCard

/-- THE SECOND FORM's CARD OF 'tinttop.TopCondsFlat'. -/
def topCondsFlatUptoCard : Claim7 := { stood := { row := topCondsFlatUptoRow, standIns := [], harness := (true, "178fb850cf2c0d96675949065ca27c8cb0c60894bd18123ed2e3c4b96f1059bc"), looks := true }, kinds := [], alts := [], laidByText := true, laidKinds := [.data, .data, .data, .data, .sentinel, .sentinel, .pinned], laidTests := true, laidLooks := .later }
def TopCondsFlatUptoCardSaid : Prop := Claim7.holds Tryz.pinned (.plain (OpenSpec.upto topCondsFlatSpec)) topCondsFlatUptoCard

/-- THE SECOND FORM's CARD OF 'tinttop.TopCondsAbsorbed'. -/
def topCondsAbsorbedUptoCard : Claim7 := { stood := { row := topCondsAbsorbedUptoRow, standIns := [], harness := (true, "178fb850cf2c0d96675949065ca27c8cb0c60894bd18123ed2e3c4b96f1059bc"), looks := true }, kinds := [], alts := [], laidByText := true, laidKinds := [.data, .data, .data, .data, .sentinel, .sentinel, .pinned], laidTests := true, laidLooks := .later }
def TopCondsAbsorbedUptoCardSaid : Prop := Claim7.holds Tryz.pinned (.plain (OpenSpec.upto topCondsAbsorbedSpec)) topCondsAbsorbedUptoCard

/-- THE SECOND FORM's CARD OF 'tinttop.TopCondsDistributed'. -/
def topCondsDistributedUptoCard : Claim7 := { stood := { row := topCondsDistributedUptoRow, standIns := [], harness := (true, "178fb850cf2c0d96675949065ca27c8cb0c60894bd18123ed2e3c4b96f1059bc"), looks := true }, kinds := [], alts := [], laidByText := true, laidKinds := [.data, .data, .data, .data, .sentinel, .sentinel, .pinned], laidTests := true, laidLooks := .later }
def TopCondsDistributedUptoCardSaid : Prop := Claim7.holds Tryz.pinned (.plain (OpenSpec.upto topCondsDistributedSpec)) topCondsDistributedUptoCard

/-- THE SECOND FORM's CARD OF 'tinttop.TopSpansParted'. -/
def topSpansPartedUptoCard : Claim7 := { stood := { row := topSpansPartedUptoRow, standIns := [], harness := (true, "178fb850cf2c0d96675949065ca27c8cb0c60894bd18123ed2e3c4b96f1059bc"), looks := true }, kinds := [], alts := [], laidByText := true, laidKinds := [.data, .data, .data, .data, .sentinel, .sentinel, .pinned], laidTests := true, laidLooks := .later }
def TopSpansPartedUptoCardSaid : Prop := Claim7.holds Tryz.pinned (.plain (OpenSpec.upto topSpansPartedSpec)) topSpansPartedUptoCard

/-- THE SECOND FORM's CARD OF 'tinttop.TopBoxesParted'. -/
def topBoxesPartedUptoCard : Claim7 := { stood := { row := topBoxesPartedUptoRow, standIns := [], harness := (true, "178fb850cf2c0d96675949065ca27c8cb0c60894bd18123ed2e3c4b96f1059bc"), looks := true }, kinds := [], alts := [], laidByText := true, laidKinds := [.data, .data, .data, .data, .sentinel, .sentinel, .pinned], laidTests := true, laidLooks := .later }
def TopBoxesPartedUptoCardSaid : Prop := Claim7.holds Tryz.pinned (.plain (OpenSpec.upto topBoxesPartedSpec)) topBoxesPartedUptoCard

/-- THE SECOND FORM's CARD OF 'tinttop.TopPlacesImplied'. -/
def topPlacesImpliedUptoCard : Claim7 := { stood := { row := topPlacesImpliedUptoRow, standIns := [], harness := (true, "178fb850cf2c0d96675949065ca27c8cb0c60894bd18123ed2e3c4b96f1059bc"), looks := true }, kinds := [], alts := [], laidByText := true, laidKinds := [.data, .data, .data, .data, .sentinel, .sentinel, .pinned], laidTests := true, laidLooks := .later }
def TopPlacesImpliedUptoCardSaid : Prop := Claim7.holds Tryz.pinned (.plain (OpenSpec.upto topPlacesImpliedSpec)) topPlacesImpliedUptoCard

/-- THE SECOND FORM's CARD OF 'tinttop.TopShapesApart'. -/
def topShapesApartUptoCard : Claim7 := { stood := { row := topShapesApartUptoRow, standIns := [], harness := (true, "178fb850cf2c0d96675949065ca27c8cb0c60894bd18123ed2e3c4b96f1059bc"), looks := true }, kinds := [], alts := [], laidByText := true, laidKinds := [.data, .data, .data, .data, .sentinel, .sentinel, .pinned], laidTests := true, laidLooks := .later }
def TopShapesApartUptoCardSaid : Prop := Claim7.holds Tryz.pinned (.plain (OpenSpec.upto topShapesApartSpec)) topShapesApartUptoCard

/-- THE SECOND FORM's CARD OF 'tinttop.TopSortsMore'. -/
def topSortsMoreUptoCard : Claim7 := { stood := { row := topSortsMoreUptoRow, standIns := [], harness := (true, "178fb850cf2c0d96675949065ca27c8cb0c60894bd18123ed2e3c4b96f1059bc"), looks := true }, kinds := [], alts := [], laidByText := true, laidKinds := [.data, .data, .data, .data, .sentinel, .sentinel, .pinned], laidTests := true, laidLooks := .later }
def TopSortsMoreUptoCardSaid : Prop := Claim7.holds Tryz.pinned (.plain (OpenSpec.upto topSortsMoreSpec)) topSortsMoreUptoCard

/-- THE SECOND FORM's CARD OF 'tinttop.TopCondsTurned'. -/
def topCondsTurnedUptoCard : Claim7 := { stood := { row := topCondsTurnedUptoRow, standIns := [], harness := (true, "178fb850cf2c0d96675949065ca27c8cb0c60894bd18123ed2e3c4b96f1059bc"), looks := true }, kinds := [], alts := [], laidByText := true, laidKinds := [.data, .data, .data, .data, .sentinel, .sentinel, .pinned], laidTests := true, laidLooks := .later }
def TopCondsTurnedUptoCardSaid : Prop := Claim7.holds Tryz.pinned (.plain (OpenSpec.upto topCondsTurnedSpec)) topCondsTurnedUptoCard
end Rows
end Go.Proofs.YtmolncgdehfejaaGreatDoor
