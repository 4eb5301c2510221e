/- A part of the proof: the walk's own logic and the contracts of the functions that the claim reaches. It has no conditions beyond those that each theorem states. -/
import Derived.Test.YtmolncgdehfejaaGreatDoorTa2

/- Closed facts of the row of TopAnswersParted, each a theorem of its own. -/
namespace Go.Proofs.YtmolncgdehfejaaGreatDoor
open Go
set_option maxRecDepth 100000
theorem jw3 : Rows.topAnswersPartedRow.wf (OpenSpec.ofChange Rows.topAnswersPartedSpec) = true := by kernel_rfl
theorem jn3 : namedTie Tryz.prog Rows.topAnswersPartedRow.named Rows.topAnswersPartedSpec.vars = true := by kernel_rfl
theorem ji3 : (Rows.topAnswersPartedRow.inPlace == Tryz.prog.inPlace 3) = true := by kernel_rfl
theorem ju3 : (Rows.topAnswersPartedRow.unfollowed == Tryz.prog.unfollowed 3) = true := by kernel_rfl
theorem jr3 : (Rows.topAnswersPartedRow.recurses == Tryz.prog.recurses 3) = true := by kernel_rfl
theorem jv3 : (Rows.topAnswersPartedRow.named == Tryz.prog.varsNamed 3) = true := by kernel_rfl
theorem jl3 : (Rows.topAnswersPartedRow.lifted == Tryz.prog.liftsFinal) = true := by kernel_rfl
theorem jm3 : (Tryz.prog.make == some Rows.topAnswersPartedRow.make) = true := by kernel_rfl
theorem jp3 : (Rows.topAnswersPartedRow.pinned == Rows.topAnswersPartedRow.pinnedBy) = true := by kernel_rfl
theorem joined3 : joinedFacts Tryz.prog 3 Tryz.f3 Rows.topAnswersPartedSpec Rows.topAnswersPartedRow = true := by
  unfold joinedFacts
  simp only [Bool.and_eq_true]
  refine ⟨⟨⟨⟨⟨⟨⟨⟨⟨⟨⟨⟨⟨⟨⟨⟨⟨⟨⟨⟨⟨⟨⟨⟨⟨⟨⟨⟨⟨⟨⟨jw3, laidOut⟩, jf_maps⟩, ?_⟩, jn3⟩, ?_⟩, jf_stops⟩, ?_⟩, jf_knobs⟩, ji3⟩, ju3⟩, jr3⟩, jv3⟩, ?_⟩, ?_⟩, ?_⟩, ?_⟩, ?_⟩, ?_⟩, ?_⟩, ?_⟩, ?_⟩, jf_keys⟩, ?_⟩, jf_heard⟩, jf_enter⟩, jl3⟩, jm3⟩, ?_⟩, jp3⟩, ?_⟩, ?_⟩
  all_goals as_aux_lemma => kernel_rfl
theorem jd3 : Rows.topAnswersPartedRow.wfByText (OpenSpec.ofChange Rows.topAnswersPartedSpec) = true := by kernel_rfl
theorem jg3 : false = Rows.topAnswersPartedRow.goesBy Tryz.prog := by kernel_rfl
theorem jc3 : Tryz.prog.funcNamed "tintype/tinttop.TopAnswersParted" = some 3 := by kernel_rfl
theorem jb3 : Tryz.prog.inits.idxOf? 3 = none := by kernel_rfl
theorem params3 : Tryz.f3.params.toList = [22,29,3] := by kernel_rfl
theorem psize3 : Tryz.f3.params.size = 3 := by kernel_rfl
theorem results3 : Tryz.f3.resultTypes = #[4] := by kernel_rfl
theorem types3 : ∀ t ∈ Tryz.f3.params.toList, Tryz.prog.readableRec t = true ∧ t < Tryz.prog.types.size := by
  rw [params3]
  intro t ht
  have : ([22,29,3].all fun t => Tryz.prog.readableRec t && decide (t < Tryz.prog.types.size)) = true := by kernel_rfl
  simpa using List.all_eq_true.1 this t ht
theorem stands3 : [22,29,3].all (fun u => !Tryz.prog.wantsStandIn u) = true := by kernel_rfl
end Go.Proofs.YtmolncgdehfejaaGreatDoor
