/- A part of the proof: the walk's own logic and the contracts of the functions that the claim reaches. It has no conditions beyond those that each theorem states. -/
import Derived.Test.YtmolncgdehfejaaGreatDoorTa1
import Derived.Test.YtmolncgdehfejaaGreatDoorProg
import Derived.ProofKit
import Derived.Shelf.Strings.Search3
import Derived.Test.YtmolncgdehfejaaGreatDoorTie
import Derived.Test.YtmolncgdehfejaaGreatDoorCards
import Derived.Carry
import Derived.Shelf.Vars
import Derived.Lay
import Derived.LaidMore
import Derived.LaidOnce
import Derived.SevenTiedAt

/- Contracts of the functions that check words and lists of photos. -/
namespace Go.Proofs.YtmolncgdehfejaaGreatDoor
open Go
set_option maxRecDepth 10000

theorem nth_get {α : Type} {l : List α} {k : Nat} (h : k < l.length) : nth l k = some l[k] := by rw [nth_eq]; simp [h]
theorem Row.at0 {g : Gh} {β off : Nat} {v : Value} {r : List Value} (h : Row g β off (v :: r)) : g β off = some v := by simpa using h 0 v rfl
theorem dropk {α : Type} {l : List α} {k : Nat} (h : k < l.length) : l.drop k = l[k] :: l.drop (k + 1) := List.drop_eq_getElem_cons h

theorem u9 : Tryz.prog.underlying 9 = some .string := by kernel_rfl
theorem u165 : Tryz.prog.underlying 165 = some (.slice 5) := by kernel_rfl
theorem u5 : Tryz.prog.underlying 5 = some (.int .u8) := by kernel_rfl
theorem fn196 : ∃ fn, Tryz.prog.funcs[196]? = some fn ∧ fn.body.isSome = true ∧ (fn.name == "runtime.NumGoroutine") = false := ⟨_, rfl, rfl, by kernel_rfl⟩

/-! ### low -/
def lowC (c : UInt8) : Bool := decide (c.toNat < 32)
theorem low1_ct (c : UInt8) (g : Gh) : Ct Tryz.prog 196 [.int .u8 (c.toNat : Int)] g (fun v g' => v = .bool (lowC c) ∧ g' = g) := by
  refine enter ok196 (by simp) fun W => ?_
  refine vc_ret0 100 rfl rfl ⟨?_, rfl⟩
  simp only [tup, lowC, Value.bool.injEq, decide_eq_decide]
  omega
theorem lowIndex_ct (β cap : Nat) (l : List UInt8) (g : Gh) (hl : l.length ≤ 9223372036854775807) (hg : ∀ (j : Nat) c, l[j]? = some c → g β j = some (.int .u8 (c.toNat : Int))) :
    Ct Tryz.prog 230 [.slice (some ⟨β, 0, none⟩) l.length cap, .func (.func 196) #[] #[]] g (fun v g' => (∃ i, v = .int .i64 i ∧ decide (i ≥ 0) = l.any lowC) ∧ g' = g) := by
  refine enter ok230 (by simp) fun W => ?_
  refine vc_loop 100 rfl [0, 1, 7, 8] (fun m vs bs g' => ∃ k : Nat, k ≤ l.length ∧ m = l.length - k ∧ vs = [.c (.v (.slice (some ⟨β, 0, none⟩) l.length cap)), .c (.v (.func (.func 196) #[] #[])), .c (.v (.int .i64 (l.length : Int))), .c (.v (.int .i64 (k : Int)))] ∧ bs = [] ∧ g' = g ∧ l.any lowC = (l.drop k).any lowC) l.length ⟨0, Nat.zero_le _, rfl, rfl, rfl, rfl, rfl⟩ ?_
  rintro m vs bs' g' ⟨k, hk, rfl, rfl, rfl, rfl, hI⟩
  refine vc_if 100 rfl rfl rfl (fun h => ?_) (fun h => ?_)
  · have hlt : k < l.length := by have := of_decide_eq_true h; omega
    have hc := hg k l[k] (by simp [hlt])
    rw [dropk hlt] at hI
    refine vc_ia 100 rfl rfl rfl rfl (by omega) (by omega) ?_
    refine vc_ld1 100 rfl rfl rfl (v := .int .u8 (l[k].toNat : Int)) (by simpa using hc) ?_
    refine vc_callv (first := []) (cap := []) 100 rfl rfl rfl rfl fn196 (low1_ct l[k] _) ?_
    rintro _ _ - ⟨rfl, rfl⟩
    refine vc_if 100 rfl rfl rfl (fun h => ?_) (fun h => ?_)
    · refine vc_ret0 100 rfl rfl ⟨⟨(k : Int), rfl, ?_⟩, rfl⟩
      rw [hI, List.any_cons, h]; rfl
    · refine vc_arith 100 rfl rfl rfl rfl rfl ((k + 1 : Nat) : Int) (wr (by omega) (by omega) (by omega)) ?_
      refine vc_fin 100 rfl ⟨l.length - (k + 1), [], by omega, rfl, k + 1, by omega, rfl, rfl, rfl, rfl, ?_⟩
      rw [hI, List.any_cons, h]; rfl
  · have : k = l.length := by have := of_decide_eq_false h; omega
    refine vc_ret0 100 rfl rfl ⟨⟨-1, rfl, ?_⟩, rfl⟩
    rw [hI, this]; simp
theorem lowContains_ct (β cap : Nat) (l : List UInt8) (g : Gh) (hl : l.length ≤ 9223372036854775807) (hg : ∀ (j : Nat) c, l[j]? = some c → g β j = some (.int .u8 (c.toNat : Int))) :
    Ct Tryz.prog 195 [.slice (some ⟨β, 0, none⟩) l.length cap, .func (.func 196) #[] #[]] g (fun v g' => v = .bool (l.any lowC) ∧ g' = g) := by
  refine enter ok195 (by simp) fun W => ?_
  refine vc_call 100 rfl rfl rfl (lowIndex_ct β cap l _ hl hg) ?_
  rintro _ _ - ⟨⟨i, rfl, hi⟩, rfl⟩
  refine vc_ret0 100 rfl rfl ⟨?_, rfl⟩
  rw [← hi]; rfl
def lowB (s : ByteArray) : Bool := s.data.toList.any lowC
theorem low_ct (s : ByteArray) (hs : s.size ≤ 9223372036854775807) (g : Gh) : Ct Tryz.prog 163 [.string s] g (fun v _ => v = .bool (lowB s)) := by
  refine enter ok163 (by simp) fun W => ?_
  refine vc_bytes 100 rfl rfl rfl u9 u165 u5 fun β cap g' _ hcap hg => ?_
  have hsz : s.data.toList.length = s.size := by simp
  rw [← hsz]
  refine vc_call 100 rfl rfl rfl (lowContains_ct β cap s.data.toList _ (by omega) hg) ?_
  rintro _ _ - ⟨rfl, rfl⟩
  exact vc_ret0 100 rfl rfl rfl

/-! ### Ids, names -/
def prevOf {α : Type} (l : List α) (k : Nat) : Option α := match k with | 0 => none | k + 1 => l[k]?
theorem prevOf_zero {α : Type} (l : List α) : prevOf l 0 = none := rfl
theorem prevOf_succ {α : Type} (l : List α) (k : Nat) : prevOf l (k + 1) = l[k]? := rfl
def checkIdsFrom : Option Int → List Int → Int
  | _, [] => 0
  | prev, n :: r => if outsideB n 1 1000000 then 2 else if prev.any (fun p => decide (n ≤ p)) then 5 else checkIdsFrom (some n) r
def checkIdsI (l : List Int) : Int := checkIdsFrom none l

theorem checkIds_ct (v : Value) (l : List Int) (g : Gh) (hv : Sl g 1 IntR v l) : Ct Tryz.prog 175 [v] g (fun r g' => r = .int .i64 (checkIdsI l) ∧ g' = g) := by
  obtain ⟨A, c, rfl, hlen, hat⟩ := hv
  refine enter ok175 (by simp) fun W => ?_
  refine vc_loop 100 rfl [0, 5, 6, 7] (fun m vs bs g' => ∃ k : Nat, k ≤ l.length ∧ m = l.length - k ∧ vs = [.c (.v (.slice A l.length c)), .c (.v (.slice A l.length c)), .c (.v (.int .i64 (l.length : Int))), .c (.v (.int .i64 (k : Int)))] ∧ bs = [] ∧ g' = g ∧ checkIdsI l = checkIdsFrom (prevOf l k) (l.drop k)) l.length ⟨0, Nat.zero_le _, rfl, rfl, rfl, rfl, rfl⟩ ?_
  rintro m vs bs' g' ⟨k, hk, rfl, rfl, rfl, rfl, hI⟩
  refine vc_if 100 rfl rfl rfl (fun h => ?_) (fun h => ?_)
  · have hlt : k < l.length := by have := of_decide_eq_true h; omega
    obtain ⟨β, off, cs, rfl, hcs, hrow, rfl, hx⟩ := hat k l[k] (nth_get hlt)
    rw [dropk hlt] at hI
    refine vc_ia 100 rfl rfl rfl rfl (by omega) (by omega) ?_
    refine vc_ld1 100 rfl rfl rfl (v := .int .i64 l[k]) hrow.at0 ?_
    refine vc_call 100 rfl rfl rfl (outside_ct _ _ _ _) ?_; rintro _ _ - ⟨rfl, rfl⟩
    refine vc_if 100 rfl rfl rfl (fun h1 => ?_) (fun h1 => ?_)
    · refine vc_ret0 100 rfl rfl ⟨?_, rfl⟩
      rw [hI, checkIdsFrom]; simp [h1, tup]
    · refine vc_if 100 rfl rfl rfl (fun h2 => ?_) (fun h2 => ?_)
      · have hk0 : 0 < k := by have := of_decide_eq_true h2; omega
        have hlt' : k - 1 < l.length := by omega
        obtain ⟨β', off', cs', e, hcs', hrow', rfl, hx'⟩ := hat (k - 1) l[k - 1] (nth_get hlt')
        injection e with e; injection e with e1 e2; subst e1 e2
        have hprev : prevOf l k = some l[k - 1] := by
          obtain ⟨j, rfl⟩ : ∃ j, k = j + 1 := ⟨k - 1, by omega⟩
          simp only [prevOf, Nat.add_sub_cancel]; simp
        refine vc_arith 100 rfl rfl rfl rfl rfl ((k - 1 : Nat) : Int) (wr (by omega) (by omega) (by omega)) ?_
        refine vc_ia 100 rfl rfl rfl rfl (by omega) (by omega) ?_
        refine vc_ld1 100 rfl rfl rfl (v := .int .i64 l[k - 1]) hrow'.at0 ?_
        refine vc_if 100 rfl rfl rfl (fun h3 => ?_) (fun h3 => ?_)
        · refine vc_ret0 100 rfl rfl ⟨?_, rfl⟩
          rw [hI, checkIdsFrom]; simp [h1, tup, hprev, of_decide_eq_true h3]
        · refine vc_arith 100 rfl rfl rfl rfl rfl ((k + 1 : Nat) : Int) (wr (by omega) (by omega) (by omega)) ?_
          refine vc_fin 100 rfl ⟨l.length - (k + 1), [], by omega, rfl, k + 1, by omega, rfl, rfl, rfl, rfl, ?_⟩
          rw [hI, checkIdsFrom]; simp [h1, hprev, of_decide_eq_false h3, prevOf_succ, hlt]
      · have hk0 : k = 0 := by have := of_decide_eq_false h2; omega
        subst hk0
        refine vc_arith 100 rfl rfl rfl rfl rfl ((0 + 1 : Nat) : Int) (wr (by omega) (by omega) (by omega)) ?_
        refine vc_fin 100 rfl ⟨l.length - (0 + 1), [], by omega, rfl, 0 + 1, by omega, rfl, rfl, rfl, rfl, ?_⟩
        rw [hI, checkIdsFrom]; simp [h1, prevOf_succ, prevOf_zero, hlt]
  · have : k = l.length := by have := of_decide_eq_false h; omega
    refine vc_ret0 100 rfl rfl ⟨?_, rfl⟩
    rw [hI, this]; simp [checkIdsFrom, tup]

def nameC (c : UInt8) : Bool := (decide (97 ≤ c.toNat) && decide (c.toNat ≤ 122)) || (decide (48 ≤ c.toNat) && decide (c.toNat ≤ 57)) || decide (c.toNat = 45)
def nameL : List UInt8 → Bool
  | [] => false
  | c :: r => decide (97 ≤ c.toNat) && decide (c.toNat ≤ 122) && decide ((c :: r).length ≤ 40) && (c :: r).all nameC
def isNameB (s : ByteArray) : Bool := nameL s.data.toList

end Go.Proofs.YtmolncgdehfejaaGreatDoor

/- Contracts of the functions that check words, photos and lists of photos. -/
namespace Go.Proofs.YtmolncgdehfejaaGreatDoor
open Go
set_option maxRecDepth 10000

theorem isName_ct (s : ByteArray) (hs : s.size ≤ 9223372036854775807) (g : Gh) : Ct Tryz.prog 157 [.string s] g (fun v g' => v = .bool (isNameB s) ∧ g' = g) := by
  have hsz : s.data.toList.length = s.size := by simp
  have he : (s.toList == (⟨#[]⟩ : ByteArray).toList) = s.data.toList.isEmpty := by
    rw [ByteArray.toList_eq, ByteArray.toList_eq]; cases s.data.toList <;> rfl
  refine enter ok157 (by simp) fun W => ?_
  refine vc_if 100 rfl rfl rfl (fun h => ?_) (fun h => ?_)
  · refine vc_ret0 100 rfl rfl ⟨?_, rfl⟩
    rw [he] at h
    have : s.data.toList = [] := by simpa using h
    simp [tup, isNameB, this, nameL]
  · rw [he] at h
    have hne : s.data.toList ≠ [] := by intro e; rw [e] at h; cases h
    have hpos : 0 < s.data.toList.length := List.length_pos_iff.2 hne
    have hh := nameL.eq_2 s.data.toList[0] (s.data.toList.drop 1)
    have hd : s.data.toList[0] :: s.data.toList.drop 1 = s.data.toList := by have := (dropk hpos).symm; simpa using this
    rw [hd, show nameL s.data.toList = isNameB s from rfl] at hh
    have hc : s.data.toList[(0 : Int).toNat]? = some s.data.toList[0] := by simp [hpos]
    refine vc_if 100 rfl rfl rfl (fun h1 => ?_) (fun h1 => ?_)
    · have h1 := of_decide_eq_true h1
      refine vc_ret0 100 rfl rfl ⟨?_, rfl⟩
      rw [hh]; simp only [tup, show ¬ s.data.toList.length ≤ 40 by omega, decide_false, Bool.and_false, Bool.false_and]
    · have h1 := of_decide_eq_false h1
      refine vc_ixs 100 rfl rfl rfl rfl (by omega) _ hc ?_
      refine vc_if 100 rfl rfl rfl (fun h2 => ?_) (fun h2 => ?_)
      · have h2 := of_decide_eq_true h2
        refine vc_ret0 100 rfl rfl ⟨?_, rfl⟩
        rw [hh]; simp only [tup, show ¬ 97 ≤ s.data.toList[0].toNat by omega, decide_false, Bool.false_and]
      · have h2 := of_decide_eq_false h2
        refine vc_ixs 100 rfl rfl rfl rfl (by omega) _ hc ?_
        refine vc_if 100 rfl rfl rfl (fun h3 => ?_) (fun h3 => ?_)
        · have h3 := of_decide_eq_true h3
          refine vc_ret0 100 rfl rfl ⟨?_, rfl⟩
          rw [hh]; simp only [tup, show ¬ s.data.toList[0].toNat ≤ 122 by omega, decide_false, Bool.false_and, Bool.and_false]
        · have h3 := of_decide_eq_false h3
          simp only [show 97 ≤ s.data.toList[0].toNat by omega, show s.data.toList[0].toNat ≤ 122 by omega, show s.data.toList.length ≤ 40 by omega, decide_true, Bool.true_and] at hh
          clear hc hd h h1 h2 h3
          refine vc_loop 100 rfl [0, 23, 24] (fun m vs bs g' => ∃ k : Nat, k ≤ s.size ∧ m = s.size - k ∧ vs = [.c (.v (.string s)), .c (.v (.int .i64 (s.size : Int))), .c (.v (.int .i64 (k : Int)))] ∧ bs = [] ∧ g' = g ∧ isNameB s = (s.data.toList.drop k).all nameC) s.size ⟨0, Nat.zero_le _, rfl, rfl, rfl, rfl, hh⟩ ?_
          rintro m vs bs' g' ⟨k, hk, rfl, rfl, rfl, rfl, hall⟩
          clear hh
          refine vc_if 100 rfl rfl rfl (fun h => ?_) (fun h => ?_)
          · have hlt : k < s.data.toList.length := by have := of_decide_eq_true h; omega
            have hc : s.data.toList[(k : Int).toNat]? = some s.data.toList[k] := by simp [hlt]
            rw [dropk hlt, List.all_cons] at hall
            refine vc_ixs 100 rfl rfl rfl rfl (by omega) _ hc ?_
            generalize s.data.toList[k] = c at *
            have yes : nameC c = true → isNameB s = (s.data.toList.drop (k + 1)).all nameC := fun h => by rw [hall, h]; rfl
            have no : nameC c = false → isNameB s = false := fun h => by rw [hall, h]; rfl
            repeat' (refine vc_if 100 rfl rfl rfl (fun h => ?_) (fun h => ?_))
            all_goals first
              | (refine vc_arith 100 rfl rfl rfl rfl rfl ((k + 1 : Nat) : Int) (wr (by omega) (by omega) (by omega)) ?_
                 refine vc_fin 100 rfl ⟨s.size - (k + 1), [], by omega, rfl, k + 1, by omega, rfl, rfl, rfl, rfl, yes ?_⟩
                 simp [nameC] at *; omega)
              | (refine vc_ret0 100 rfl rfl ⟨?_, rfl⟩
                 rw [no ?_]
                 · rfl
                 · simp [nameC] at *; omega)
          · have : k = s.size := by have := of_decide_eq_false h; omega
            refine vc_ret0 100 rfl rfl ⟨?_, rfl⟩
            rw [hall, this, ← hsz, List.drop_length]; rfl

end Go.Proofs.YtmolncgdehfejaaGreatDoor

/- Contracts of the functions that check photos and lists of photos. -/
namespace Go.Proofs.YtmolncgdehfejaaGreatDoor
open Go
set_option maxRecDepth 10000

/-- A photo as a value. -/
def PhoV (g : Gh) (v : Value) (p : Pho) : Prop := ∃ cs, v = .agg cs.toArray ∧ PhoR g cs p
theorem PhoV.mono {g g' : Gh} {v : Value} {p : Pho} (h : PhoV g v p) (hl : Le g g') : PhoV g' v p := by
  obtain ⟨cs, h1, h2⟩ := h; exact ⟨cs, h1, h2.mono hl⟩

def leS (a b : ByteArray) : Bool := Op.bytesLess a.toList b.toList || a.toList == b.toList
def checkTagsFrom : Option ByteArray → List ByteArray → Int
  | _, [] => 0
  | prev, n :: r => if isNameB n then if prev.any (fun p => leS n p) then 5 else checkTagsFrom (some n) r else 3
def andThen (a b : Int) : Int := if a = 0 then b else a
def checkWordsI (p : Pho) : Int :=
  if p.tags.length ≤ 20 then andThen (checkTagsFrom none p.tags) (if p.caption.size ≤ 200 then if lowB p.caption then 9 else if p.people.length ≤ 20 then checkIdsI p.people else 4 else 4) else 4

theorem checkWords_ct (v : Value) (p : Pho) (g : Gh) (hv : PhoV g v p) : Ct Tryz.prog 119 [v] g (fun r _ => r = .int .i64 (checkWordsI p)) := by
  obtain ⟨_, rfl, _, _, _, rfl, ⟨A1, c1, rfl, hl1, hw⟩, ⟨A2, c2, rfl, hl2, ht⟩, ⟨A3, c3, rfl, hl3, hp⟩, hr⟩ := hv
  have hcap := hr.2.2.2.2.2.2.2.2
  refine enter ok119 (by simp) fun W => ?_
  refine vc_box 100 0 rfl rfl rfl rfl fun β0 => ?_
  refine vc_if 100 rfl rfl rfl (fun h0 => ?_) (fun h0 => ?_)
  · have := of_decide_eq_true h0
    refine vc_ret0 100 rfl rfl ?_
    simp only [tup, checkWordsI, show ¬ p.tags.length ≤ 20 by omega, if_false]
  · have h20 : p.tags.length ≤ 20 := by have := of_decide_eq_false h0; omega
    refine vc_loop 100 rfl [1, 10, 11, 12] (fun m vs bs g' => ∃ k : Nat, k ≤ p.tags.length ∧ m = p.tags.length - k ∧ vs = [.c (.p 0 0), .c (.v (.slice A2 p.tags.length c2)), .c (.v (.int .i64 (p.tags.length : Int))), .c (.v (.int .i64 (k : Int)))] ∧
        bs = [⟨some β0, 127, [.v (.int .i64 p.id), .v (.string p.file), .v (.int .i64 p.moment), .v (.int .i64 p.zone), .v (.slice A1 p.wher.length c1), .v (.int .i64 p.w), .v (.int .i64 p.h), .v (.int .i64 p.turn), .v (.int .i64 p.stars), .v (.slice A2 p.tags.length c2), .v (.string p.caption), .v (.slice A3 p.people.length c3), .v (.bool p.hidden)], true⟩] ∧ g' = g ∧
        checkTagsFrom none p.tags = checkTagsFrom (prevOf p.tags k) (p.tags.drop k)) p.tags.length ⟨0, Nat.zero_le _, rfl, rfl, rfl, rfl, rfl⟩ ?_
    rintro m vs bs' g' ⟨k, hk, rfl, rfl, rfl, rfl, hI⟩
    refine vc_if 100 rfl rfl rfl (fun h => ?_) (fun h => ?_)
    · have hlt : k < p.tags.length := by have := of_decide_eq_true h; omega
      obtain ⟨β, off, cs, rfl, hcs, hrow, rfl, hx⟩ := ht k p.tags[k] (nth_get hlt)
      rw [dropk hlt, checkTagsFrom] at hI
      have bad : ∀ e : Int, e ≠ 0 → checkTagsFrom none p.tags = e → checkWordsI p = e := by
        intro e h1 h2; simp only [checkWordsI, h20, if_true, h2, andThen, if_neg h1]
      refine vc_ia 100 rfl rfl rfl rfl (by omega) (by omega) ?_
      refine vc_ld1 100 rfl rfl rfl (v := .string p.tags[k]) hrow.at0 ?_
      refine vc_call 100 rfl rfl rfl (isName_ct _ hx _) ?_; rintro _ _ - ⟨rfl, rfl⟩
      refine vc_if 100 rfl rfl rfl (fun h1 => ?_) (fun h1 => ?_)
      · refine vc_ret0 100 rfl rfl ?_
        rw [bad 3 (by omega)]
        · rfl
        · rw [hI, if_neg (by simpa using h1)]
      · rw [if_pos (by simpa using h1)] at hI
        refine vc_if 100 rfl rfl rfl (fun h2 => ?_) (fun h2 => ?_)
        · have hk0 : 0 < k := by have := of_decide_eq_true h2; omega
          have hlt' : k - 1 < p.tags.length := by omega
          obtain ⟨β', off', cs', e, hcs', hrow', rfl, hx'⟩ := ht (k - 1) p.tags[k - 1] (nth_get hlt')
          injection e with e; injection e with e1 e2; subst e1 e2
          have hprev : prevOf p.tags k = some p.tags[k - 1] := by
            obtain ⟨j, rfl⟩ : ∃ j, k = j + 1 := ⟨k - 1, by omega⟩
            simp only [prevOf_succ, Nat.add_sub_cancel]; simp
          rw [hprev, Option.any_some] at hI
          refine vc_arith 100 rfl rfl rfl rfl rfl ((k - 1 : Nat) : Int) (wr (by omega) (by omega) (by omega)) ?_
          refine vc_ia 100 rfl rfl rfl rfl (by omega) (by omega) ?_
          refine vc_ld1 100 rfl rfl rfl (v := .string p.tags[k - 1]) hrow'.at0 ?_
          refine vc_if 100 rfl rfl rfl (fun h3 => ?_) (fun h3 => ?_)
          · refine vc_ret0 100 rfl rfl ?_
            rw [bad 5 (by omega)]
            · rfl
            · rw [hI]; exact if_pos h3
          · refine vc_arith 100 rfl rfl rfl rfl rfl ((k + 1 : Nat) : Int) (wr (by omega) (by omega) (by omega)) ?_
            refine vc_fin 100 rfl ⟨p.tags.length - (k + 1), [0], by omega, rfl, k + 1, by omega, rfl, rfl, rfl, rfl, ?_⟩
            rw [hI, if_neg (by rw [show leS p.tags[k] p.tags[k - 1] = false from h3]; simp), prevOf_succ]; simp [hlt]
        · have hk0 : k = 0 := by have := of_decide_eq_false h2; omega
          subst hk0
          refine vc_arith 100 rfl rfl rfl rfl rfl ((0 + 1 : Nat) : Int) (wr (by omega) (by omega) (by omega)) ?_
          refine vc_fin 100 rfl ⟨p.tags.length - (0 + 1), [0], by omega, rfl, 0 + 1, by omega, rfl, rfl, rfl, rfl, ?_⟩
          rw [hI, prevOf_zero, prevOf_succ]; simp [hlt]
    · have : k = p.tags.length := by have := of_decide_eq_false h; omega
      rw [this, List.drop_length, checkTagsFrom] at hI
      have hw' : checkWordsI p = (if p.caption.size ≤ 200 then if lowB p.caption then 9 else if p.people.length ≤ 20 then checkIdsI p.people else 4 else 4) := by
        simp only [checkWordsI, h20, if_true, hI, andThen]
      rw [hw']
      refine vc_if 100 rfl rfl rfl (fun h1 => ?_) (fun h1 => ?_)
      · have := of_decide_eq_true h1
        refine vc_ret0 100 rfl rfl ?_
        simp only [tup, show ¬ p.caption.size ≤ 200 by omega, if_false]
      · have := of_decide_eq_false h1
        simp only [show p.caption.size ≤ 200 by omega, if_true]
        refine vc_call 100 rfl rfl rfl (low_ct p.caption hcap _) ?_
        rintro _ g2 hle rfl
        refine vc_if 100 rfl rfl rfl (fun h2 => ?_) (fun h2 => ?_)
        · refine vc_ret0 100 rfl rfl ?_
          simp [tup, h2]
        · refine vc_if 100 rfl rfl rfl (fun h3 => ?_) (fun h3 => ?_)
          · have := of_decide_eq_true h3
            refine vc_ret0 100 rfl rfl ?_
            simp only [tup, h2, show ¬ p.people.length ≤ 20 by omega, if_false]; rfl
          · have := of_decide_eq_false h3
            refine vc_call 100 rfl rfl rfl (checkIds_ct (.slice A3 p.people.length c3) p.people _ (Sl.mono ⟨A3, c3, rfl, hl3, hp⟩ hle fun _ _ h => h)) ?_
            rintro _ _ - ⟨rfl, rfl⟩
            refine vc_ret0 100 rfl rfl ?_
            simp only [tup, h2, show p.people.length ≤ 20 by omega, if_true]; rfl

def checkPlacesI : List Plc → Int
  | [] => 0
  | x :: r => if checkPlaceI x = 0 then checkPlacesI r else checkPlaceI x
def checkPhotoI (p : Pho) : Int :=
  if outsideB p.id 1 1000000 then 2 else if isFileB p.file then
    andThen (checkWhenI p) (if p.wher.length ≤ 1 then andThen (checkPlacesI p.wher)
      (if outsideB p.w 1 100000 || outsideB p.h 1 100000 || outsideB p.turn 1 8 || outsideB p.stars 0 5 then 2 else checkWordsI p) else 1) else 1

theorem neqB {a b : Int} (h : (a != b) = true) : a ≠ b := by simpa using h
theorem eqB {a b : Int} (h : (a != b) = false) : a = b := by simpa using h

theorem checkPhoto_ct (v : Value) (p : Pho) (g : Gh) (hv : PhoV g v p) : Ct Tryz.prog 82 [v] g (fun r _ => r = .int .i64 (checkPhotoI p)) := by
  have hv0 := hv
  obtain ⟨_, rfl, _, _, _, rfl, ⟨A1, c1, rfl, hl1, hw⟩, ⟨A2, c2, rfl, hl2, ht⟩, ⟨A3, c3, rfl, hl3, hp⟩, hr⟩ := hv
  refine enter ok82 (by simp) fun W => ?_
  refine vc_box 100 0 rfl rfl rfl rfl fun β0 => ?_
  refine vc_call 100 rfl rfl rfl (outside_ct _ _ _ _) ?_; rintro _ _ - ⟨rfl, rfl⟩
  refine vc_if 100 rfl rfl rfl (fun h1 => ?_) (fun h1 => ?_)
  · refine vc_ret0 100 rfl rfl ?_
    simp only [tup, checkPhotoI, h1, if_true]
  refine vc_call 100 rfl rfl rfl (isFile_ct _ hr.2.1 _) ?_; rintro _ _ - ⟨rfl, rfl⟩
  refine vc_if 100 rfl rfl rfl (fun h2 => ?_) (fun h2 => ?_)
  · refine vc_ret0 100 rfl rfl ?_
    rw [Bool.not_eq_true'] at h2
    simp [tup, checkPhotoI, h1, h2]
  have h2 : isFileB p.file = true := by simpa using h2
  refine vc_call 100 rfl rfl rfl (checkWhen_ct p A1 A2 A3 _ _ _ c1 c2 c3 _) ?_; rintro _ _ - ⟨rfl, rfl⟩
  refine vc_if 100 rfl rfl rfl (fun h3 => ?_) (fun h3 => ?_)
  · refine vc_ret0 100 rfl rfl ?_
    simp [tup, checkPhotoI, h1, h2, andThen, neqB h3]
  have h3 := eqB h3
  have e1 : checkPhotoI p = (if p.wher.length ≤ 1 then andThen (checkPlacesI p.wher)
      (if outsideB p.w 1 100000 || outsideB p.h 1 100000 || outsideB p.turn 1 8 || outsideB p.stars 0 5 then 2 else checkWordsI p) else 1) := by
    simp only [checkPhotoI, h1, h2, h3, andThen, if_true]; rfl
  rw [e1]; clear e1
  refine vc_if 100 rfl rfl rfl (fun h4 => ?_) (fun h4 => ?_)
  · have := of_decide_eq_true h4
    refine vc_ret0 100 rfl rfl ?_
    simp only [tup, show ¬ p.wher.length ≤ 1 by omega, if_false]
  have h4 := of_decide_eq_false h4
  simp only [show p.wher.length ≤ 1 by omega, if_true]
  refine vc_loop 100 rfl [1, 24, 25, 26] (fun m vs bs g' => ∃ k : Nat, k ≤ p.wher.length ∧ m = p.wher.length - k ∧ vs = [.c (.p 0 0), .c (.v (.slice A1 p.wher.length c1)), .c (.v (.int .i64 (p.wher.length : Int))), .c (.v (.int .i64 (k : Int)))] ∧
      bs = [⟨some β0, 127, [.v (.int .i64 p.id), .v (.string p.file), .v (.int .i64 p.moment), .v (.int .i64 p.zone), .v (.slice A1 p.wher.length c1), .v (.int .i64 p.w), .v (.int .i64 p.h), .v (.int .i64 p.turn), .v (.int .i64 p.stars), .v (.slice A2 p.tags.length c2), .v (.string p.caption), .v (.slice A3 p.people.length c3), .v (.bool p.hidden)], true⟩] ∧ g' = _ ∧
      checkPlacesI p.wher = checkPlacesI (p.wher.drop k)) p.wher.length ⟨0, Nat.zero_le _, rfl, rfl, rfl, rfl, rfl⟩ ?_
  rintro m vs bs' g' ⟨k, hk, rfl, rfl, rfl, rfl, hI⟩
  refine vc_if 100 rfl rfl rfl (fun h => ?_) (fun h => ?_)
  · have hlt : k < p.wher.length := by have := of_decide_eq_true h; omega
    obtain ⟨β, off, cs, rfl, hcs, hrow, rfl, hx⟩ := hw k p.wher[k] (nth_get hlt)
    rw [dropk hlt, checkPlacesI] at hI
    refine vc_ia 100 rfl rfl rfl rfl (by omega) (by omega) ?_
    refine vc_ldn 100 _ rfl rfl rfl rfl hrow ?_
    refine vc_alloc 100 1 rfl rfl rfl fun β1 => ?_
    refine vc_call 100 rfl rfl rfl (checkPlace_ct p.wher[k] _) ?_; rintro _ _ - ⟨rfl, rfl⟩
    refine vc_if 100 rfl rfl rfl (fun h5 => ?_) (fun h5 => ?_)
    · refine vc_ret0 100 rfl rfl ?_
      rw [if_neg (neqB h5)] at hI
      simp [tup, andThen, hI, neqB h5]
    · rw [if_pos (eqB h5)] at hI
      refine vc_arith 100 rfl rfl rfl rfl rfl ((k + 1 : Nat) : Int) (wr (by omega) (by omega) (by omega)) ?_
      exact vc_fin 100 rfl ⟨p.wher.length - (k + 1), [0], by omega, rfl, k + 1, by omega, rfl, rfl, rfl, rfl, hI⟩
  · have : k = p.wher.length := by have := of_decide_eq_false h; omega
    rw [this, List.drop_length, checkPlacesI] at hI
    simp only [hI, andThen, if_true]
    repeat' (first
      | (refine vc_if 100 rfl rfl rfl (fun h => ?_) (fun h => ?_))
      | (refine vc_call 100 rfl rfl rfl (outside_ct _ _ _ _) ?_; rintro _ _ - ⟨rfl, rfl⟩))
    all_goals first
      | (refine vc_ret0 100 rfl rfl ?_; simp [tup, *]; done)
      | (refine vc_call 100 rfl rfl rfl (checkWords_ct _ p _ hv0) ?_
         rintro _ _ - rfl
         refine vc_ret0 100 rfl rfl ?_
         simp [tup, *]; done)

def checkFrom : Option Pho → List Pho → Int
  | _, [] => 0
  | prev, p :: r => andThen (checkPhotoI p) (if prev.any (fun q => decide (p.id ≤ q.id)) then 5 else checkFrom (some p) r)
def checkI (l : List Pho) : Int := if l.length ≤ 1000 then checkFrom none l else 4

end Go.Proofs.YtmolncgdehfejaaGreatDoor

/- A second rule for statements that leave their order open: where it is known ahead what each operation gives. No program stands in it. -/
namespace Go.Proofs.YtmolncgdehfejaaGreatDoor
open Go Go.RowKit

def LoudEndF (bs : List Bx) (g : Gh) (i : Nat) (r : RI) (F : Nat → EV) (env' : Env) (bs' : List Bx) (g'' : Gh) : Prop :=
  bs' = bs ∧ g'' = g ∧ ∀ d, r.dst = some d → env' d = F i

section
variable {X : Cx} {g : Gh} {l : List RI} {deps : List (List Nat)} {env : Env} {bs : List Bx} {lou : List Nat}

def DrawInvF (X : Cx) (g : Gh) (l : List RI) (deps : List (List Nat)) (env : Env) (bs : List Bx) (lou : List Nat) (F : Nat → EV) (listed : Array Bool) (a : Act) (W : World) : Prop :=
  Sim X g bs W ∧ a.defers = [] ∧ X.N ≤ a.tmps.size ∧ (∀ t, t ∉ dsts l → Is bs (env t) (a.tmps.getD t undef)) ∧
    (∀ i r d, nth l i = some r → r.dst = some d → listed.getD i false = true → Is bs (envO bs F lou 0 l env d) (a.tmps.getD d undef)) ∧ (∀ i, listed.getD i false = true → ∀ j ∈ nthD deps i, listed.getD j false = true)

/-- The goals of the operations that are listed. -/
def Louds (X : Cx) (g : Gh) (l : List RI) (env : Env) (bs : List Bx) (lou : List Nat) (F : Nat → EV) : List Nat → Prop
  | [] => True
  | i :: q => (match nth l i with
    | some r => vcS X ⟨[.ops [r], .fin (LoudEndF bs g i r F)], restr (tempsI r) (envO bs F lou 0 l env), bs⟩ g
    | none => True) ∧ Louds X g l env bs lou F q
theorem louds_at {F : Nat → EV} : ∀ (q : List Nat), Louds X g l env bs lou F q → ∀ i ∈ q, ∀ r, nth l i = some r → vcS X ⟨[.ops [r], .fin (LoudEndF bs g i r F)], restr (tempsI r) (envO bs F lou 0 l env), bs⟩ g
  | [], _, i, hi, _, _ => by simp at hi
  | j :: q, h, i, hi, r, hr => by
    rcases List.mem_cons.1 hi with rfl | hi
    · have := h.1; rw [hr] at this; exact this
    · exact louds_at q h.2 i hi r hr

theorem draw_nextF (hchk : drawOk l deps = true) {F : Nat → EV}
    {listed : Array Bool} {a : Act} {W2 : World} (hdef : a.defers = []) (hsz : X.N ≤ a.tmps.size)
    (hout : ∀ t, t ∉ dsts l → Is bs (env t) (a.tmps.getD t undef)) (hin : ∀ i r d, nth l i = some r → r.dst = some d → listed.getD i false = true → Is bs (envO bs F lou 0 l env d) (a.tmps.getD d undef))
    (hcl : ∀ i, listed.getD i false = true → ∀ j ∈ nthD deps i, listed.getD j false = true)
    {i : Nat} {r : RI} {d : Nat} (hi : nth l i = some r) (hd : r.dst = some d) (hdN : d < X.N) (hilt : i < listed.size) (_hun : listed.getD i false = false) (hdeps : ∀ j ∈ nthD deps i, listed.getD j false = true)
    (hs2 : Sim X g bs W2) {v : Value} (hv : Is bs (envO bs F lou 0 l env d) v) :
    DrawInvF X g l deps env bs lou F (listed.setIfInBounds i true) (a.put (some d) v) W2 := by
  have hput : ∀ t, (a.put (some d) v).tmps.getD t undef = if t = d then v else a.tmps.getD t undef := by
    intro t
    simp only [Act.put, Array.getD_eq_getD_getElem?, Array.getElem?_setIfInBounds]
    by_cases h : t = d
    · subst h; simp [show t < a.tmps.size by omega]
    · simp [h, Ne.symm h]
  refine ⟨hs2, by simpa [Act.put] using hdef, by simpa [Act.put] using hsz, fun t ht => ?_, fun j r' d' hj hd' hlj => ?_, fun j hlj k hk => ?_⟩
  · rw [hput]
    have : t ≠ d := fun e => ht (by subst e; exact (mem_dsts l t).2 ⟨i, r, hi, hd⟩)
    rw [if_neg this]; exact hout t ht
  · rw [getD_set _ _ _ hilt] at hlj
    rw [hput]
    by_cases e : i = j
    · subst e
      rw [hi] at hj; injection hj with hj; subst hj
      rw [hd] at hd'; injection hd' with hd'; subst hd'
      rw [if_pos rfl]; exact hv
    · rw [if_neg e] at hlj
      have hdd : d' ≠ d := fun h => e (distinct_dst (drawOk_distinct hchk) i j r r' d hi hj hd (by rw [hd', h]))
      rw [if_neg hdd]
      exact hin j r' d' hj hd' hlj
  · rw [getD_set _ _ _ hilt] at hlj ⊢
    by_cases e : i = j
    · subst e; split
      · rfl
      · exact hdeps k hk
    · rw [if_neg e] at hlj
      split
      · rfl
      · exact hcl j hlj k hk

theorem vc_drawF (hm : X.P.follows .mixedOrders = true) (n : Nat) {st : St} {ks : List K}
    (hst : adv n st = ⟨.code (.drw l deps) :: ks, env, bs⟩) (lou : List Nat) (F : Nat → EV)
    (hchk : drawOk l deps = true) (hsil : okO bs F lou 0 l env = true)
    (hlouds : Louds X g l env bs lou F lou)
    (h : vcS X ⟨ks, envO bs F lou 0 l env, bs⟩ g) : vcS X st g := by
  have hloud := louds_at lou hlouds
  refine adv_ok n ?_
  rw [hst]
  intro ks' hk a0 W0 hs0 ha0
  cases hk with
  | @code c _ r' _ hc hr =>
  obtain ⟨id, ops, rfl, hl, rfl⟩ := resC_inv hc
  obtain ⟨hlen, hnth⟩ := resL_nth ops.toList l hl
  have hlen' : l.length = ops.size := by simpa using hlen
  have key : ∀ fuel (listed : Array Bool) a W, listed.size = ops.size → ((List.range ops.size).filter (fun i => !listed.getD i true)).length = fuel →
      DrawInvF X g l (depsOf ops) env bs lou F listed a W → wpAny X.P .any ops (wps X.P X.Q r') fuel listed a W := by
    intro fuel
    induction fuel with
    | zero =>
      intro listed a W hsize hfuel hinv
      have hall : ∀ i, i < ops.size → listed.getD i true = true := by
        intro i hi
        cases hb : listed.getD i true with
        | true => rfl
        | false =>
          have : i ∈ (List.range ops.size).filter (fun i => !listed.getD i true) := List.mem_filter.2 ⟨List.mem_range.2 hi, by simp [hb]⟩
          rw [List.eq_nil_of_length_eq_zero hfuel] at this
          simp at this
      have hall' : ∀ i, i < ops.size → listed.getD i false = true := by
        intro i hi
        have := hall i hi
        have hi' : i < listed.size := by omega
        simpa [Array.getD_eq_getD_getElem?, hi'] using this
      refine ⟨?_, ?_⟩
      · apply List.eq_nil_iff_forall_not_mem.2
        intro i hi
        obtain ⟨o, ho, h1, _⟩ := (ready_iff ops listed i).1 hi
        have := hall i (Array.getElem?_eq_some_iff.1 ho).1
        rw [this] at h1; cases h1
      · obtain ⟨hs, hdef, hsz, hout, hin, hcl⟩ := hinv
        refine h r' hr a W hs ⟨hdef, hsz, fun t => ?_⟩
        · by_cases ht : t ∈ dsts l
          · obtain ⟨i, r, h1, h2⟩ := (mem_dsts l t).1 ht
            have := nth_lt h1
            exact hin i r t h1 h2 (hall' i (by omega))
          · show Is bs (envO bs F lou 0 l env t) _
            rw [envO_out _ _ _ _ _ _ _ ht]; exact hout t ht
    | succ fuel ih =>
      intro listed a W hsize hfuel hinv
      refine ⟨fun hempty => ?_, fun i hi => ?_⟩
      · exfalso
        have hall : ∀ m i, i < m → i < ops.size → listed.getD i true = true := by
          intro m
          induction m with
          | zero => intro i hi; omega
          | succ m ihm =>
            intro i him hi
            cases hb : listed.getD i true with
            | true => rfl
            | false =>
              exfalso
              have ho : ops[i]? = some ops[i] := by simp [hi]
              obtain ⟨r, hr1, _⟩ := hnth i ops[i] (by simp [hi])
              have : i ∈ Region.ready .any ops listed := (ready_iff ops listed i).2 ⟨_, ho, hb, fun j hj => by
                have hji := (drawOk_spec hchk hr1).2.2.1 j hj
                have := ihm j (by omega) (by omega)
                have hj' : j < listed.size := by omega
                simpa [Array.getD_eq_getD_getElem?, hj'] using this⟩
              rw [hempty] at this
              simp at this
        have : (List.range ops.size).filter (fun i => !listed.getD i true) = [] := by
          apply List.filter_eq_nil_iff.2
          intro i hi
          have := hall (i + 1) i (by omega) (List.mem_range.1 hi)
          simp [this]
        rw [this] at hfuel
        simp at hfuel
      · obtain ⟨o, ho, hun, hdeps⟩ := (ready_iff ops listed i).1 hi
        have hilt : i < ops.size := (Array.getElem?_eq_some_iff.1 ho).1
        have hilt' : i < listed.size := by omega
        have hun' : listed.getD i false = false := by simpa [Array.getD_eq_getD_getElem?, hilt'] using hun
        obtain ⟨r, hri, hres⟩ := hnth i o (by simpa using ho)
        obtain ⟨p1, p2, p3, _⟩ := resI_parts hres
        obtain ⟨hstore, ⟨d, hd⟩, _, hwr⟩ := drawOk_spec hchk hri
        have hdN : d < X.N := by rw [hd] at p3; simpa using p3
        obtain ⟨hs, hdef, hsz, hout, hin, hcl⟩ := hinv
        have hfuel' : ((List.range ops.size).filter (fun j => !(listed.setIfInBounds i true).getD j true)).length = fuel := by
          have hsplit : ∀ (L : List Nat), L.Nodup → i ∈ L → (L.filter (fun j => !listed.getD j true)).length = (L.filter (fun j => !(listed.setIfInBounds i true).getD j true)).length + 1 := by
            intro L
            induction L with
            | nil => intro _ h; simp at h
            | cons x L ihL =>
              intro hnd hmem
              have hset : ∀ j, (listed.setIfInBounds i true).getD j true = if i = j then true else listed.getD j true := by
                intro j
                simp only [Array.getD_eq_getD_getElem?, Array.getElem?_setIfInBounds]
                by_cases h : i = j
                · subst h; simp [hilt']
                · simp [h]
              obtain ⟨hx, hnd'⟩ := List.nodup_cons.1 hnd
              by_cases e : i = x
              · subst e
                have hsame : L.filter (fun j => !(listed.setIfInBounds i true).getD j true) = L.filter (fun j => !listed.getD j true) := by
                  apply List.filter_congr
                  intro j hj
                  have : i ≠ j := fun e => hx (by rw [e]; exact hj)
                  rw [hset, if_neg this]
                rw [List.filter_cons_of_pos (by simp [hun]), List.filter_cons_of_neg (by simp [hset]), hsame, List.length_cons]
              · have hm' : i ∈ L := by
                  rcases List.mem_cons.1 hmem with h | h
                  · exact absurd h e
                  · exact h
                have := ihL hnd' hm'
                by_cases hb : listed.getD x true = true
                · rw [List.filter_cons_of_neg (by simp [hb]), List.filter_cons_of_neg (by rw [hset, if_neg e]; simp [hb])]; exact this
                · rw [List.filter_cons_of_pos (by simpa using hb), List.filter_cons_of_pos (by rw [hset, if_neg e]; simpa using hb), List.length_cons, List.length_cons, this]
          have := hsplit (List.range ops.size) List.nodup_range (List.mem_range.2 hilt)
          omega
        have hE : ∀ t ∈ tempsI r, Is bs (envO bs F lou 0 l env t) (a.tmps.getD t undef) := by
          intro t ht
          by_cases hm : t ∈ dsts l
          · obtain ⟨j, r2, h1, h2⟩ := (mem_dsts l t).1 hm
            exact hin j r2 t h1 h2 (hdeps j (hwr t ht j r2 h1 h2).1)
          · rw [envO_out _ _ _ _ _ _ _ hm]; exact hout t hm
        have hagr : Agr X bs (restr (tempsI r) (envO bs F lou 0 l env)) a := by
          refine ⟨hdef, hsz, fun t => ?_⟩
          unfold restr
          cases hmt : memN (tempsI r) t with
          | true => exact hE t ((memN_iff _ _).1 hmt)
          | false => exact trivial
        have hcong : ∀ t ∈ tempsI r, restr (tempsI r) (envO bs F lou 0 l env) t = envO bs F lou 0 l env t := by
          intro t ht; unfold restr; rw [(memN_iff _ _).2 ht]
        have hgd : gdv r.gd (restr (tempsI r) (envO bs F lou 0 l env)) = gdv r.gd (envO bs F lou 0 l env) := gdv_congr fun t ht => hcong t (by simp [tempsI, ht])
        have hsl : sil r.op (restr (tempsI r) (envO bs F lou 0 l env)) bs = sil r.op (envO bs F lou 0 l env) bs := sil_congr fun t ht => hcong t (by simp [tempsI, ht])
        have hsize' : (listed.setIfInBounds i true).size = ops.size := by simpa using hsize
        obtain ⟨hat1, hat2⟩ := envO_at (bs := bs) (f := F) (lou := lou) (env := env) hchk hri hd
        cases hlo : memN lou i with
        | false =>
          have hok := hat2 hsil hlo
          rw [hlo] at hat1
          simp only at hat1
          have hnot : i ∉ lou := fun hm => by rw [(memN_iff _ _).2 hm] at hlo; cases hlo
          unfold okV at hok
          unfold wpOp
          simp only [ho]
          split at hok
          · rename_i hgt
            split at hok
            · rename_i p hsil'
              obtain ⟨x, bs'⟩ := p
              have := sil_bs hstore hsil'
              subst this
              rw [if_pos (by rw [guard_ok hagr hres (b := true) (by rw [hgd]; exact hgt)])]
              left
              obtain ⟨nx, v, W', e1, e2, e3, e4, e5⟩ := sil_ok p1 (by rw [hsl]; exact hsil') hs hagr
              have hval : envO bs' F lou 0 l env d = x := by rw [hat1]; unfold valO; rw [hgt]; simp only [hsil']
              have hnext := ih (listed.setIfInBounds i true) (a.put (some d) v) W' hsize' hfuel' (draw_nextF hchk hdef hsz hout hin hcl hri hd hdN hilt' hun' hdeps e4 (by rw [hval]; exact e3))
              unfold Oper.wp
              rw [e1]
              rcases e2 with rfl | ⟨rfl, rfl⟩
              · rw [Oper.upon_value, p2, hd]; exact hnext
              · rw [Oper.upon_skip, p2, hd]; exact hnext
            · cases hok
          · rename_i hgt
            rw [if_neg (by rw [guard_ok hagr hres (b := false) (by rw [hgd]; exact hgt)]; simp)]
            have hval : envO bs F lou 0 l env d = .c (.v undef) := by rw [hat1]; unfold valO; rw [hgt]
            rw [p2, hd]
            exact ih (listed.setIfInBounds i true) (a.put (some d) undef) W hsize' hfuel' (draw_nextF hchk hdef hsz hout hin hcl hri hd hdN hilt' hun' hdeps hs (by rw [hval]; exact rfl))
          · cases hok
        | true =>
          have hil : i ∈ lou := (memN_iff _ _).1 hlo
          have hv := hloud i hil r hri
          let S : Act → World → Prop := fun a2 W2 => ∃ env2, Sim X g bs W2 ∧ Agr X bs env2 a2 ∧ LoudEndF bs g i r F env2 bs g
          have hrun := hv [.ops ops [i], .fin S] (.ops ⟨⟨o, ho, hres⟩, trivial⟩ (.fin (fun a2 W2 env2 bs2 g2 hs2 ha2 hR => by
            have h1 := hR.1; have h2 := hR.2.1; subst h1; subst h2; exact ⟨env2, hs2, ha2, hR⟩) .nil)) a W hs hagr
          have hrun' : wpOp X.P ops (wps X.P X.Q [.fin S]) i S a W := by
            have : wpOps X.P ops (wps X.P X.Q [.fin S]) [i] a W := hrun
            rw [wpOps_cons] at this
            exact wpOp_mono (fun a w hw => hw) this
          refine wpOp_to hrun' ho (fun ds v W2 hS => ?_) (fun c a w hp => by rw [wps_panic] at hp ⊢; exact hp) (fun a w hp => by rw [wps_outgrown] at hp ⊢; exact hp)
          obtain ⟨env2, hs2, ha2, _, _, hGi⟩ := hS
          have hds : ds = [] := by
            have := ha2.defers
            have e : (({ a with defers := ds ++ a.defers } : Act).put o.dst v).defers = ds ++ a.defers := by cases o.dst <;> rfl
            rw [e] at this
            exact (List.append_eq_nil_iff.1 this).1
          subst hds
          rw [p2, hd] at ha2 ⊢
          have hvis : Is bs (env2 d) v := by
            have := ha2.is d
            have e : ((({ a with defers := [] ++ a.defers } : Act).put (some d) v).tmps.getD d undef) = v := by
              simp only [Act.put, Array.getD_eq_getD_getElem?, Array.getElem?_setIfInBounds]
              simp [show d < a.tmps.size by omega]
            rw [e] at this; exact this
          have hval : envO bs F lou 0 l env d = env2 d := by
            rw [(envO_at (bs := bs) (f := F) (lou := lou) (env := env) hchk hri hd).1, hlo, hGi d hd]
          exact ih (listed.setIfInBounds i true) _ W2 hsize' hfuel' (draw_nextF hchk hdef hsz hout hin hcl hri hd hdN hilt' hun' hdeps hs2 (by rw [hval]; exact hvis))
  refine wp_region_any hm (key ops.size (Array.replicate ops.size false) a0 _ (by simp) ?_ ⟨hs0.drew, ha0.defers, ha0.size, fun t _ => ha0.is t, fun i r d _ _ hi => ?_, fun i hi => ?_⟩)
  · have : (List.range ops.size).filter (fun i => !(Array.replicate ops.size false).getD i true) = List.range ops.size := by
      apply List.filter_eq_self.2
      intro i hi
      have := List.mem_range.1 hi
      simp [Array.getD_eq_getD_getElem?, this]
    rw [this, List.length_range]
  all_goals
    simp only [Array.getD_eq_getD_getElem?, Array.getElem?_replicate] at hi
    split at hi <;> simp at hi
theorem vc_envs {ks : List K} (slots : List Nat) (vs : List EV) (he : slots.map env = vs) (h : vcS X ⟨ks, mkEnv slots vs, bs⟩ g) : vcS X ⟨ks, env, bs⟩ g := by
  subst he; exact vc_env slots h

end

end Go.Proofs.YtmolncgdehfejaaGreatDoor

/- The contract of find.Check. -/
namespace Go.Proofs.YtmolncgdehfejaaGreatDoor
open Go
set_option maxRecDepth 10000

theorem mix : Tryz.prog.follows .mixedOrders = true := by kernel_rfl

/-- Photos as a value. -/
def PhosV (g : Gh) (v : Value) (l : List Pho) : Prop := Sl g 13 (PhoR g) v l
theorem PhosV.mono {g g' : Gh} {v : Value} {l : List Pho} (h : PhosV g v l) (hl : Le g g') : PhosV g' v l := Sl.mono h hl fun _ _ h => h.mono hl

theorem check_ct (v : Value) (l : List Pho) (g : Gh) (hv : PhosV g v l) : Ct Tryz.prog 54 [v] g (fun r _ => r = .int .i64 (checkI l)) := by
  obtain ⟨A, c, rfl, hlen, hat⟩ := hv
  refine enter ok54 (by simp) fun W => ?_
  refine vc_if 100 rfl rfl rfl (fun h0 => ?_) (fun h0 => ?_)
  · have := of_decide_eq_true h0
    refine vc_ret0 100 rfl rfl ?_
    simp only [tup, checkI, show ¬ l.length ≤ 1000 by omega, if_false]
  have h20 : l.length ≤ 1000 := by have := of_decide_eq_false h0; omega
  have hcI : checkI l = checkFrom none l := by simp [checkI, h20]
  rw [hcI]
  refine vc_loop 100 rfl [0, 9, 10, 11] (fun m vs bs g' => ∃ k : Nat, k ≤ l.length ∧ m = l.length - k ∧ vs = [.c (.v (.slice A l.length c)), .c (.v (.slice A l.length c)), .c (.v (.int .i64 (l.length : Int))), .c (.v (.int .i64 (k : Int)))] ∧
      bs = [] ∧ Le g g' ∧ checkFrom none l = checkFrom (prevOf l k) (l.drop k)) l.length ⟨0, Nat.zero_le _, rfl, rfl, rfl, Le.refl g, rfl⟩ ?_
  rintro m vs bs' g1 ⟨k, hk, rfl, rfl, rfl, hle, hI⟩
  have hat : ∀ i x, nth l i = some x → ∃ β off cs, A = some ⟨β, off, none⟩ ∧ lenIs cs 13 = true ∧ Row g1 β (off + i * 13) cs ∧ PhoR g1 cs x := fun i x hx =>
    let ⟨β, off, cs, a, b, d, e⟩ := hat i x hx; ⟨β, off, cs, a, b, d.mono hle, e.mono hle⟩
  refine vc_if 100 rfl rfl rfl (fun h => ?_) (fun h => ?_)
  · have hlt : k < l.length := by have := of_decide_eq_true h; omega
    obtain ⟨β, off, cs, rfl, hcs, hrow, hpho⟩ := hat k l[k] (nth_get hlt)
    have hpv : PhoV g1 (.agg cs.toArray) l[k] := ⟨cs, rfl, hpho⟩
    obtain ⟨_, _, _, rfl, ⟨A1, c1, rfl, _⟩, ⟨A2, c2, rfl, _⟩, ⟨A3, c3, rfl, _⟩, _⟩ := hpho
    rw [dropk hlt, checkFrom] at hI
    refine vc_ia 100 rfl rfl rfl rfl (by omega) (by omega) ?_
    refine vc_ldn 100 _ rfl rfl rfl rfl hrow ?_
    refine vc_alloc 100 0 rfl rfl rfl fun β1 => ?_
    refine vc_call 100 rfl rfl rfl (checkPhoto_ct _ l[k] _ hpv) ?_
    rintro _ g2 hle2 rfl
    refine vc_if 100 rfl rfl rfl (fun h5 => ?_) (fun h5 => ?_)
    · refine vc_ret0 100 rfl rfl ?_
      rw [andThen, if_neg (neqB h5)] at hI
      rw [hI]; rfl
    · rw [andThen, if_pos (eqB h5)] at hI
      by_cases hk0 : 0 < k
      · have hlt' : k - 1 < l.length := by omega
        obtain ⟨β', off', cs', e, hcs', hrow', hpho'⟩ := hat (k - 1) l[k - 1] (nth_get hlt')
        injection e with e; injection e with e1 e2; subst e1 e2
        obtain ⟨w1, w2, w3, rfl, _⟩ := hpho'
        have hprev : prevOf l k = some l[k - 1] := by
          obtain ⟨j, rfl⟩ : ∃ j, k = j + 1 := ⟨k - 1, by omega⟩
          simp only [prevOf_succ, Nat.add_sub_cancel]; simp
        rw [hprev, Option.any_some] at hI
        refine vc_drawF mix 100 rfl [1, 7, 8, 10] (fun i => match i with | 1 => .c (.k true) | 7 => .c (.v (.int .i64 ((k - 1 : Nat) : Int))) | 8 => .c (.v (.pointer (some ⟨β, off + (k - 1) * 13, none⟩))) | _ => .c (.v (.int .i64 l[k - 1].id))) rfl rfl ⟨?_, ?_, ?_, ?_, trivial⟩ ?_
        · refine vc_split 100 22 rfl rfl (fun h => ?_) (fun h => ?_)
          · exact vc_fin 100 rfl ⟨rfl, rfl, fun d hd => by injection hd with hd; subst hd; rfl⟩
          · have := of_decide_eq_false h; omega
        · refine vc_arith 100 rfl rfl rfl rfl rfl ((k - 1 : Nat) : Int) (wr (by omega) (by omega) (by omega)) ?_
          exact vc_fin 100 rfl ⟨rfl, rfl, fun d hd => by injection hd with hd; subst hd; rfl⟩
        · refine vc_ia 100 rfl rfl rfl rfl (by omega) (by omega) ?_
          exact vc_fin 100 rfl ⟨rfl, rfl, fun d hd => by injection hd with hd; subst hd; rfl⟩
        · refine vc_ld1 100 rfl rfl rfl (v := .int .i64 l[k - 1].id) (hle2 _ _ _ hrow'.at0) ?_
          exact vc_fin 100 rfl ⟨rfl, rfl, fun d hd => by injection hd with hd; subst hd; rfl⟩
        refine vc_if 100 rfl rfl rfl (fun h3 => ?_) (fun h3 => ?_)
        · refine vc_ret0 100 rfl rfl ?_
          rw [if_pos h3] at hI
          rw [hI]; rfl
        · rw [h3, if_neg (by simp)] at hI
          refine vc_arith 100 rfl rfl rfl rfl rfl ((k + 1 : Nat) : Int) (wr (by omega) (by omega) (by omega)) ?_
          refine vc_fin 100 rfl ⟨l.length - (k + 1), [], by omega, rfl, k + 1, by omega, rfl, rfl, rfl, Le.trans hle hle2, ?_⟩
          rw [hI, prevOf_succ]; simp [hlt]
      · have hk0 : k = 0 := by omega
        subst hk0
        refine vc_drawF mix 100 rfl [1] (fun i => .c (.k false)) rfl rfl ⟨?_, trivial⟩ ?_
        · refine vc_split 100 22 rfl rfl (fun h => ?_) (fun h => ?_)
          · cases h
          · exact vc_fin 100 rfl ⟨rfl, rfl, fun d hd => by injection hd with hd; subst hd; rfl⟩
        rw [prevOf_zero] at hI
        refine vc_arith 100 rfl rfl rfl rfl rfl ((0 + 1 : Nat) : Int) (wr (by omega) (by omega) (by omega)) ?_
        refine vc_fin 100 rfl ⟨l.length - (0 + 1), [], by omega, rfl, 0 + 1, by omega, rfl, rfl, rfl, Le.trans hle hle2, ?_⟩
        rw [hI, prevOf_succ]; simp [hlt]
  · have : k = l.length := by have := of_decide_eq_false h; omega
    refine vc_ret0 100 rfl rfl ?_
    rw [hI, this, List.drop_length]; rfl

end Go.Proofs.YtmolncgdehfejaaGreatDoor

/- Conditions in memory: what the readings say. No program stands in it. -/
namespace Go.Proofs.YtmolncgdehfejaaGreatDoor
open Go

theorem kidsAt_iff (g : Gh) (A : Option Addr) : ∀ (ks : List Cnd) (i : Nat), KidsAt g A i ks ↔ ∀ j x, nth ks j = some x → ∃ β off cs, A = some ⟨β, off, none⟩ ∧ lenIs cs 6 = true ∧ Row g β (off + (i + j) * 6) cs ∧ CndR g cs x
  | [], i => by simp [KidsAt, nth]
  | k :: ks, i => by
    rw [KidsAt, kidsAt_iff g A ks (i + 1)]
    constructor
    · rintro ⟨h1, h2⟩ j x hx
      cases j with
      | zero => simp only [nth, Option.some.injEq] at hx; subst hx; simpa using h1
      | succ j =>
        have := h2 j x (by simpa [nth] using hx)
        rwa [show i + 1 + j = i + (j + 1) by omega] at this
    · intro h
      refine ⟨by simpa using h 0 k rfl, fun j x hx => ?_⟩
      have := h (j + 1) x (by simpa [nth] using hx)
      rwa [show i + (j + 1) = i + 1 + j by omega] at this
theorem kidsR_iff (g : Gh) (v : Value) (ks : List Cnd) : KidsR g v ks ↔ Sl g 6 (CndR g) v ks := by
  rw [KidsR]
  constructor
  · rintro ⟨A, c, h1, h2, h3⟩
    refine ⟨A, c, h1, h2, fun i x hx => ?_⟩
    have := (kidsAt_iff g A ks 0).1 h3 i x hx
    rwa [Nat.zero_add] at this
  · rintro ⟨A, c, h1, h2, h3⟩
    refine ⟨A, c, h1, h2, (kidsAt_iff g A ks 0).2 fun i x hx => ?_⟩
    rw [Nat.zero_add]; exact h3 i x hx

mutual
theorem CndR.mono {g g' : Gh} (hl : Le g g') : ∀ (c : Cnd) (cs : List Value), CndR g cs c → CndR g' cs c
  | .mk op kids text low high pl, cs, h => by
    rw [CndR] at h ⊢
    obtain ⟨vk, va, h1, h2, h3, h4⟩ := h
    rw [KidsR] at h2
    obtain ⟨A, c, e1, e2, e3⟩ := h2
    refine ⟨vk, va, h1, ?_, h3.mono hl fun _ _ h => h, h4⟩
    rw [KidsR]
    exact ⟨A, c, e1, e2, KidsAt.mono hl kids A 0 e3⟩
theorem KidsAt.mono {g g' : Gh} (hl : Le g g') : ∀ (ks : List Cnd) (A : Option Addr) (i : Nat), KidsAt g A i ks → KidsAt g' A i ks
  | [], _, _, _ => by rw [KidsAt]; trivial
  | k :: ks, A, i, h => by
    rw [KidsAt] at h ⊢
    obtain ⟨⟨β, off, cs, a, b, d, e⟩, h2⟩ := h
    exact ⟨⟨β, off, cs, a, b, d.mono hl, CndR.mono hl k cs e⟩, KidsAt.mono hl ks A (i + 1) h2⟩
end

/-- A condition as a value. -/
def CndV (g : Gh) (v : Value) (c : Cnd) : Prop := ∃ cs, v = .agg cs.toArray ∧ CndR g cs c
theorem CndV.mono {g g' : Gh} {v : Value} {c : Cnd} (h : CndV g v c) (hl : Le g g') : CndV g' v c := by
  obtain ⟨cs, h1, h2⟩ := h; exact ⟨cs, h1, CndR.mono hl c cs h2⟩
theorem CndR.parts {g : Gh} {cs : List Value} {op low high : Int} {kids : List Cnd} {text : ByteArray} {pl : List Plc} (h : CndR g cs (.mk op kids text low high pl)) :
    ∃ A1 c1 A2 c2, cs = [.int .i64 op, .slice A1 kids.length c1, .string text, .int .i64 low, .int .i64 high, .slice A2 pl.length c2] ∧
      Sl g 6 (CndR g) (.slice A1 kids.length c1) kids ∧ Sl g 2 PlcR (.slice A2 pl.length c2) pl ∧ kids.length ≤ 9223372036854775807 ∧ pl.length ≤ 9223372036854775807 ∧ I64 op ∧ text.size ≤ 9223372036854775807 ∧ I64 low ∧ I64 high := by
  rw [CndR] at h
  obtain ⟨vk, va, rfl, h2, h3, h4⟩ := h
  have h2 := (kidsR_iff _ _ _).1 h2
  obtain ⟨A1, c1, rfl, h5, _⟩ := id h2
  obtain ⟨A2, c2, rfl, h6, _⟩ := id h3
  exact ⟨A1, c1, A2, c2, rfl, h2, h3, by omega, by omega, h4⟩
theorem CndV.parts {g : Gh} {v : Value} {op low high : Int} {kids : List Cnd} {text : ByteArray} {pl : List Plc} (h : CndV g v (.mk op kids text low high pl)) :
    ∃ A1 c1 A2 c2, v = .agg #[.int .i64 op, .slice A1 kids.length c1, .string text, .int .i64 low, .int .i64 high, .slice A2 pl.length c2] ∧
      Sl g 6 (CndR g) (.slice A1 kids.length c1) kids ∧ Sl g 2 PlcR (.slice A2 pl.length c2) pl ∧ kids.length ≤ 9223372036854775807 ∧ pl.length ≤ 9223372036854775807 ∧ I64 op ∧ text.size ≤ 9223372036854775807 ∧ I64 low ∧ I64 high := by
  obtain ⟨cs, rfl, h⟩ := h
  obtain ⟨A1, c1, A2, c2, rfl, h'⟩ := h.parts
  exact ⟨A1, c1, A2, c2, rfl, h'⟩

/-- A cut of a slice. -/
theorem Sl.cut {α : Type} {g : Gh} {size : Nat} {R : List Value → α → Prop} {A : Option Addr} {n c : Nat} {l : List α} (h : Sl g size R (.slice A n c) l) {p q r : Nat} (h1 : p ≤ q) (h2 : q ≤ n) (h3 : q ≤ r) (h4 : r ≤ c) :
    Sl g size R (.slice (cutA A size p r) (q - p) (r - p)) ((l.drop p).take (q - p)) := by
  obtain ⟨A', c', e, hl, hat⟩ := h
  injection e with e1 e2 e3; subst e1 e2 e3
  have hlen : ((l.drop p).take (q - p)).length = q - p := by simp; omega
  refine ⟨cutA A size p r, r - p, by rw [hlen], by rw [hlen]; omega, fun i x hx => ?_⟩
  have hi := nth_lt hx
  rw [hlen] at hi
  rw [nth_eq, List.getElem?_take, if_pos hi, List.getElem?_drop, ← nth_eq] at hx
  obtain ⟨β, off, cs, rfl, a1, a2, a3⟩ := hat (p + i) x hx
  refine ⟨β, off + p * size, cs, ?_, a1, ?_, a3⟩
  · rw [cutA, if_neg (by omega)]; simp [Addr.add]
  · rw [Nat.add_assoc, ← Nat.add_mul]; exact a2

end Go.Proofs.YtmolncgdehfejaaGreatDoor

/- The resolved forms of the functions that check conditions and questions, and the closed facts on them. Printed by wip/gen.py. -/
namespace Go.Proofs.YtmolncgdehfejaaGreatDoor
open Go
set_option maxRecDepth 10000

/-- tintype/find.CheckCond -/
def R52 : RC :=
  .seq (.reg [⟨.box 26 6 (.tmp 0), some 1, none⟩,
   ⟨.mv (.const (.int .i64 0)), some 2, none⟩])
  (.seq (.reg [⟨.build [.int .i64 0] [], some 3, none⟩,
   ⟨.box 116 1 (.tmp 3), some 4, none⟩,
   ⟨.ldn 6 (.tmp 1), some 5, none⟩,
   ⟨.call 75 [.tmp 4, .tmp 5, .const (.int .i64 0)], some 6, none⟩,
   ⟨.mv (.tmp 6), some 2, none⟩])
  (.ret))
theorem ok52 : FnOk Tryz.prog 52 7 R52 [.t 2] := ⟨_, _, rfl, rfl, rfl, by kernel_rfl, by kernel_rfl⟩

/-- (*tintype/find.checker).check -/
def R75 : RC :=
  .seq (.reg [⟨.box 26 6 (.tmp 1), some 4, none⟩,
   ⟨.mv (.const (.int .i64 0)), some 6, none⟩])
  (.seq (.reg [⟨.mv (.tmp 0), some 13, none⟩,
   ⟨.nilc (.tmp 13), some 14, none⟩,
   ⟨.fa 0 (.tmp 14), some 15, none⟩,
   ⟨.ld1 (.tmp 15), some 16, none⟩,
   ⟨.bin .add (.tmp 16) (.const (.int .i64 1)), some 17, none⟩,
   ⟨.nilc (.tmp 13), some 18, none⟩,
   ⟨.fa 0 (.tmp 18), some 19, none⟩,
   ⟨.st1 (.tmp 19) (.tmp 17), none, none⟩])
  (.seq (.seq (.reg [⟨.mv (.tmp 0), some 20, none⟩,
   ⟨.nilc (.tmp 20), some 21, none⟩,
   ⟨.fa 0 (.tmp 21), some 22, none⟩,
   ⟨.ld1 (.tmp 22), some 23, none⟩,
   ⟨.bin .gtr (.tmp 23) (.const (.int .i64 100)), some 24, none⟩,
   ⟨.mv (.tmp 24), some 25, none⟩,
   ⟨.mv (.tmp 2), some 26, some (25, false)⟩,
   ⟨.bin .gtr (.tmp 26) (.const (.int .i64 12)), some 27, some (25, false)⟩,
   ⟨.pick (.tmp 25) (.const (.bool true)) (.tmp 27), some 28, none⟩])
  (.cond (.tmp 28) (.seq (.reg [⟨.mv (.const (.int .i64 4)), some 6, none⟩])
    (.ret))
  (.skip)))
  (.seq (.seq (.reg [⟨.fa 0 (.tmp 4), some 29, none⟩,
   ⟨.ld1 (.tmp 29), some 30, none⟩,
   ⟨.call 57 [.tmp 30, .const (.int .i64 1), .const (.int .i64 16)], some 31, none⟩])
  (.cond (.tmp 31) (.seq (.reg [⟨.mv (.const (.int .i64 10)), some 6, none⟩])
    (.ret))
  (.skip)))
  (.seq (.seq (.reg [⟨.bslice 76 1 3 [.nilFunc] [(0, .func 103), (1, .func 104), (2, .func 105)], some 32, none⟩,
   ⟨.len (.tmp 32), some 33, none⟩,
   ⟨.mv (.const (.int .i64 0)), some 34, none⟩])
  (.blk 0 (.loop (.seq (.reg [⟨.bin .lss (.tmp 34) (.tmp 33), some 35, none⟩])
      (.seq (.cond (.tmp 35) (.skip)
      (.exit 0))
      (.seq (.blk 1 (.seq (.reg [⟨.ia 1 (.tmp 32) (.tmp 34), some 36, none⟩,
         ⟨.ld1 (.tmp 36), some 37, none⟩,
         ⟨.mv (.tmp 37), some 8, none⟩])
        (.seq (.reg [⟨.mv (.tmp 8), some 38, none⟩,
         ⟨.ldn 6 (.tmp 4), some 39, none⟩,
         ⟨.callv (.tmp 38) [.tmp 39], some 40, none⟩,
         ⟨.mv (.tmp 40), some 9, none⟩])
        (.seq (.reg [⟨.mv (.tmp 9), some 41, none⟩,
         ⟨.bin .neq (.tmp 41) (.const (.int .i64 0)), some 42, none⟩])
        (.cond (.tmp 42) (.seq (.reg [⟨.mv (.tmp 9), some 43, none⟩,
           ⟨.mv (.tmp 43), some 6, none⟩])
          (.ret))
        (.skip))))))
      (.reg [⟨.bin .add (.tmp 34) (.const (.int .i64 1)), some 44, none⟩,
       ⟨.mv (.tmp 44), some 34, none⟩])))))))
  (.seq (.seq (.reg [⟨.fa 1 (.tmp 4), some 45, none⟩,
   ⟨.ld1 (.tmp 45), some 46, none⟩,
   ⟨.len (.tmp 46), some 47, none⟩,
   ⟨.mv (.const (.int .i64 0)), some 48, none⟩])
  (.blk 2 (.loop (.seq (.reg [⟨.bin .lss (.tmp 48) (.tmp 47), some 49, none⟩])
      (.seq (.cond (.tmp 49) (.skip)
      (.exit 2))
      (.seq (.blk 3 (.seq (.reg [⟨.ia 6 (.tmp 46) (.tmp 48), some 50, none⟩,
         ⟨.ldn 6 (.tmp 50), some 51, none⟩,
         ⟨.alloc 26 [.int .i64 0, .slice none 0 0, .string ⟨#[]⟩, .int .i64 0, .int .i64 0, .slice none 0 0], some 11, none⟩,
         ⟨.stn 6 (.tmp 11) (.tmp 51), none, none⟩])
        (.seq (.reg [⟨.mv (.tmp 0), some 52, none⟩,
         ⟨.ldn 6 (.tmp 11), some 53, none⟩,
         ⟨.mv (.tmp 2), some 54, none⟩,
         ⟨.bin .add (.tmp 54) (.const (.int .i64 1)), some 55, none⟩,
         ⟨.call 75 [.tmp 52, .tmp 53, .tmp 55], some 56, none⟩,
         ⟨.mv (.tmp 56), some 12, none⟩])
        (.seq (.reg [⟨.mv (.tmp 12), some 57, none⟩,
         ⟨.bin .neq (.tmp 57) (.const (.int .i64 0)), some 58, none⟩])
        (.cond (.tmp 58) (.seq (.reg [⟨.mv (.tmp 12), some 59, none⟩,
           ⟨.mv (.tmp 59), some 6, none⟩])
          (.ret))
        (.skip))))))
      (.reg [⟨.bin .add (.tmp 48) (.const (.int .i64 1)), some 60, none⟩,
       ⟨.mv (.tmp 60), some 48, none⟩])))))))
  (.seq (.reg [⟨.mv (.const (.int .i64 0)), some 6, none⟩])
  (.ret)))))))
theorem ok75 : FnOk Tryz.prog 75 61 R75 [.t 6] := ⟨_, _, rfl, rfl, rfl, by kernel_rfl, by kernel_rfl⟩

/-- tintype/find.checkForm -/
def R103 : RC :=
  .seq (.reg [⟨.box 26 6 (.tmp 0), some 1, none⟩,
   ⟨.mv (.const (.int .i64 0)), some 2, none⟩])
  (.seq (.reg [⟨.fa 0 (.tmp 1), some 4, none⟩,
   ⟨.ld1 (.tmp 4), some 5, none⟩,
   ⟨.call 162 [.tmp 5], some 6, none⟩,
   ⟨.alloc 203 [.bool false, .bool false, .bool false, .int .i64 0], some 3, none⟩,
   ⟨.stn 4 (.tmp 3) (.tmp 6), none, none⟩])
  (.seq (.seq (.reg [⟨.fa 0 (.tmp 1), some 7, none⟩,
   ⟨.ld1 (.tmp 7), some 8, none⟩,
   ⟨.bin .eql (.tmp 8) (.const (.int .i64 3)), some 9, none⟩,
   ⟨.mv (.tmp 9), some 10, none⟩,
   ⟨.fa 1 (.tmp 1), some 11, some (10, true)⟩,
   ⟨.ld1 (.tmp 11), some 12, some (10, true)⟩,
   ⟨.len (.tmp 12), some 13, some (10, true)⟩,
   ⟨.bin .neq (.tmp 13) (.const (.int .i64 1)), some 14, some (10, true)⟩,
   ⟨.pick (.tmp 10) (.tmp 14) (.const (.bool false)), some 15, none⟩,
   ⟨.mv (.tmp 15), some 16, none⟩,
   ⟨.fa 0 (.tmp 1), some 17, some (16, false)⟩,
   ⟨.ld1 (.tmp 17), some 18, some (16, false)⟩,
   ⟨.bin .geq (.tmp 18) (.const (.int .i64 4)), some 19, some (16, false)⟩,
   ⟨.mv (.tmp 19), some 20, some (16, false)⟩,
   ⟨.fa 1 (.tmp 1), some 21, some (20, true)⟩,
   ⟨.ld1 (.tmp 21), some 22, some (20, true)⟩,
   ⟨.len (.tmp 22), some 23, some (20, true)⟩,
   ⟨.bin .gtr (.tmp 23) (.const (.int .i64 0)), some 24, some (20, true)⟩,
   ⟨.pick (.tmp 20) (.tmp 24) (.const (.bool false)), some 25, some (16, false)⟩,
   ⟨.pick (.tmp 16) (.const (.bool true)) (.tmp 25), some 26, none⟩,
   ⟨.mv (.tmp 26), some 27, none⟩,
   ⟨.fa 5 (.tmp 1), some 28, some (27, false)⟩,
   ⟨.ld1 (.tmp 28), some 29, some (27, false)⟩,
   ⟨.len (.tmp 29), some 30, some (27, false)⟩,
   ⟨.fa 3 (.tmp 3), some 31, some (27, false)⟩,
   ⟨.ld1 (.tmp 31), some 32, some (27, false)⟩,
   ⟨.bin .neq (.tmp 30) (.tmp 32), some 33, some (27, false)⟩,
   ⟨.pick (.tmp 27) (.const (.bool true)) (.tmp 33), some 34, none⟩,
   ⟨.mv (.tmp 34), some 35, none⟩,
   ⟨.fa 0 (.tmp 3), some 36, some (35, false)⟩,
   ⟨.ld1 (.tmp 36), some 37, some (35, false)⟩,
   ⟨.un .not (.tmp 37), some 38, some (35, false)⟩,
   ⟨.mv (.tmp 38), some 39, some (35, false)⟩,
   ⟨.fa 2 (.tmp 1), some 40, some (39, true)⟩,
   ⟨.ld1 (.tmp 40), some 41, some (39, true)⟩,
   ⟨.bin .neq (.tmp 41) (.const (.string ⟨#[]⟩)), some 42, some (39, true)⟩,
   ⟨.pick (.tmp 39) (.tmp 42) (.const (.bool false)), some 43, some (35, false)⟩,
   ⟨.pick (.tmp 35) (.const (.bool true)) (.tmp 43), some 44, none⟩,
   ⟨.mv (.tmp 44), some 45, none⟩,
   ⟨.fa 1 (.tmp 3), some 46, some (45, false)⟩,
   ⟨.ld1 (.tmp 46), some 47, some (45, false)⟩,
   ⟨.un .not (.tmp 47), some 48, some (45, false)⟩,
   ⟨.mv (.tmp 48), some 49, some (45, false)⟩,
   ⟨.fa 3 (.tmp 1), some 50, some (49, true)⟩,
   ⟨.ld1 (.tmp 50), some 51, some (49, true)⟩,
   ⟨.bin .neq (.tmp 51) (.const (.int .i64 0)), some 52, some (49, true)⟩,
   ⟨.pick (.tmp 49) (.tmp 52) (.const (.bool false)), some 53, some (45, false)⟩,
   ⟨.pick (.tmp 45) (.const (.bool true)) (.tmp 53), some 54, none⟩,
   ⟨.mv (.tmp 54), some 55, none⟩,
   ⟨.fa 2 (.tmp 3), some 56, some (55, false)⟩,
   ⟨.ld1 (.tmp 56), some 57, some (55, false)⟩,
   ⟨.un .not (.tmp 57), some 58, some (55, false)⟩,
   ⟨.mv (.tmp 58), some 59, some (55, false)⟩,
   ⟨.fa 4 (.tmp 1), some 60, some (59, true)⟩,
   ⟨.ld1 (.tmp 60), some 61, some (59, true)⟩,
   ⟨.bin .neq (.tmp 61) (.const (.int .i64 0)), some 62, some (59, true)⟩,
   ⟨.pick (.tmp 59) (.tmp 62) (.const (.bool false)), some 63, some (55, false)⟩,
   ⟨.pick (.tmp 55) (.const (.bool true)) (.tmp 63), some 64, none⟩])
  (.cond (.tmp 64) (.seq (.reg [⟨.mv (.const (.int .i64 1)), some 2, none⟩])
    (.ret))
  (.skip)))
  (.seq (.reg [⟨.mv (.const (.int .i64 0)), some 2, none⟩])
  (.ret))))
theorem ok103 : FnOk Tryz.prog 103 65 R103 [.t 2] := ⟨_, _, rfl, rfl, rfl, by kernel_rfl, by kernel_rfl⟩

/-- tintype/find.checkText -/
def R104 : RC :=
  .seq (.reg [⟨.box 26 6 (.tmp 0), some 1, none⟩,
   ⟨.mv (.const (.int .i64 0)), some 2, none⟩])
  (.seq (.blk 0 (.seq (.reg [⟨.fa 0 (.tmp 1), some 4, none⟩,
     ⟨.ld1 (.tmp 4), some 5, none⟩,
     ⟨.bin .eql (.tmp 5) (.const (.int .i64 4)), some 6, none⟩,
     ⟨.mv (.tmp 6), some 7, none⟩,
     ⟨.fa 2 (.tmp 1), some 8, some (7, true)⟩,
     ⟨.ld1 (.tmp 8), some 9, some (7, true)⟩,
     ⟨.call 157 [.tmp 9], some 10, some (7, true)⟩,
     ⟨.un .not (.tmp 10), some 11, some (7, true)⟩,
     ⟨.pick (.tmp 7) (.tmp 11) (.const (.bool false)), some 12, none⟩,
     ⟨.mv (.tmp 12), some 3, none⟩])
    (.cond (.tmp 3) (.seq (.reg [⟨.mv (.const (.int .i64 3)), some 2, none⟩])
      (.ret))
    (.seq (.reg [⟨.fa 0 (.tmp 1), some 14, none⟩,
       ⟨.ld1 (.tmp 14), some 15, none⟩,
       ⟨.bin .eql (.tmp 15) (.const (.int .i64 5)), some 16, none⟩,
       ⟨.mv (.tmp 16), some 17, none⟩,
       ⟨.fa 2 (.tmp 1), some 18, some (17, true)⟩,
       ⟨.ld1 (.tmp 18), some 19, some (17, true)⟩,
       ⟨.lens (.tmp 19), some 20, some (17, true)⟩,
       ⟨.call 57 [.tmp 20, .const (.int .i64 1), .const (.int .i64 200)], some 21, some (17, true)⟩,
       ⟨.pick (.tmp 17) (.tmp 21) (.const (.bool false)), some 22, none⟩,
       ⟨.mv (.tmp 22), some 13, none⟩])
      (.cond (.tmp 13) (.seq (.reg [⟨.mv (.const (.int .i64 4)), some 2, none⟩])
        (.ret))
      (.seq (.reg [⟨.fa 0 (.tmp 1), some 24, none⟩,
         ⟨.ld1 (.tmp 24), some 25, none⟩,
         ⟨.bin .eql (.tmp 25) (.const (.int .i64 5)), some 26, none⟩,
         ⟨.mv (.tmp 26), some 27, none⟩,
         ⟨.fa 2 (.tmp 1), some 28, some (27, true)⟩,
         ⟨.ld1 (.tmp 28), some 29, some (27, true)⟩,
         ⟨.call 163 [.tmp 29], some 30, some (27, true)⟩,
         ⟨.pick (.tmp 27) (.tmp 30) (.const (.bool false)), some 31, none⟩,
         ⟨.mv (.tmp 31), some 23, none⟩])
        (.cond (.tmp 23) (.seq (.reg [⟨.mv (.const (.int .i64 9)), some 2, none⟩])
          (.ret))
        (.skip))))))))
  (.seq (.reg [⟨.mv (.const (.int .i64 0)), some 2, none⟩])
  (.ret)))
theorem ok104 : FnOk Tryz.prog 104 32 R104 [.t 2] := ⟨_, _, rfl, rfl, rfl, by kernel_rfl, by kernel_rfl⟩

/-- tintype/find.checkNumbers -/
def R105 : RC :=
  .seq (.reg [⟨.box 26 6 (.tmp 0), some 1, none⟩,
   ⟨.mv (.const (.int .i64 0)), some 2, none⟩])
  (.seq (.reg [⟨.mv (.const (.int .i64 0)), some 3, none⟩,
   ⟨.mv (.const (.int .i64 0)), some 4, none⟩])
  (.seq (.seq (.reg [⟨.fa 0 (.tmp 1), some 9, none⟩,
   ⟨.ld1 (.tmp 9), some 10, none⟩])
  (.blk 0 (.seq (.reg [⟨.bin .eql (.tmp 10) (.const (.int .i64 6)), some 12, none⟩,
     ⟨.mv (.tmp 12), some 11, none⟩])
    (.cond (.tmp 11) (.reg [⟨.mv (.const (.int .i64 1)), some 3, none⟩,
       ⟨.mv (.const (.int .i64 1000000)), some 4, none⟩])
    (.seq (.reg [⟨.bin .eql (.tmp 10) (.const (.int .i64 7)), some 14, none⟩,
       ⟨.mv (.tmp 14), some 13, none⟩])
      (.cond (.tmp 13) (.reg [⟨.mv (.const (.int .i64 5)), some 4, none⟩])
      (.seq (.reg [⟨.bin .eql (.tmp 10) (.const (.int .i64 8)), some 16, none⟩,
         ⟨.mv (.tmp 16), some 15, none⟩])
        (.cond (.tmp 15) (.reg [⟨.mv (.const (.int .i64 6311433599)), some 4, none⟩])
        (.seq (.reg [⟨.bin .eql (.tmp 10) (.const (.int .i64 14)), some 18, none⟩,
           ⟨.mv (.tmp 18), some 17, none⟩])
          (.cond (.tmp 17) (.reg [⟨.mv (.const (.int .i64 20100000)), some 4, none⟩])
          (.skip)))))))))))
  (.seq (.reg [⟨.fa 0 (.tmp 1), some 19, none⟩,
   ⟨.ld1 (.tmp 19), some 20, none⟩,
   ⟨.call 162 [.tmp 20], some 21, none⟩,
   ⟨.alloc 203 [.bool false, .bool false, .bool false, .int .i64 0], some 5, none⟩,
   ⟨.stn 4 (.tmp 5) (.tmp 21), none, none⟩])
  (.seq (.seq (.reg [⟨.fa 1 (.tmp 5), some 22, none⟩,
   ⟨.ld1 (.tmp 22), some 23, none⟩,
   ⟨.mv (.tmp 23), some 24, none⟩,
   ⟨.fa 3 (.tmp 1), some 25, some (24, true)⟩,
   ⟨.ld1 (.tmp 25), some 26, some (24, true)⟩,
   ⟨.mv (.tmp 3), some 27, some (24, true)⟩,
   ⟨.mv (.tmp 4), some 28, some (24, true)⟩,
   ⟨.call 57 [.tmp 26, .tmp 27, .tmp 28], some 29, some (24, true)⟩,
   ⟨.pick (.tmp 24) (.tmp 29) (.const (.bool false)), some 30, none⟩,
   ⟨.mv (.tmp 30), some 31, none⟩,
   ⟨.fa 2 (.tmp 5), some 32, some (31, false)⟩,
   ⟨.ld1 (.tmp 32), some 33, some (31, false)⟩,
   ⟨.mv (.tmp 33), some 34, some (31, false)⟩,
   ⟨.fa 4 (.tmp 1), some 35, some (34, true)⟩,
   ⟨.ld1 (.tmp 35), some 36, some (34, true)⟩,
   ⟨.mv (.tmp 3), some 37, some (34, true)⟩,
   ⟨.mv (.tmp 4), some 38, some (34, true)⟩,
   ⟨.call 57 [.tmp 36, .tmp 37, .tmp 38], some 39, some (34, true)⟩,
   ⟨.pick (.tmp 34) (.tmp 39) (.const (.bool false)), some 40, some (31, false)⟩,
   ⟨.pick (.tmp 31) (.const (.bool true)) (.tmp 40), some 41, none⟩])
  (.cond (.tmp 41) (.seq (.reg [⟨.mv (.const (.int .i64 2)), some 2, none⟩])
    (.ret))
  (.skip)))
  (.seq (.seq (.reg [⟨.fa 5 (.tmp 1), some 42, none⟩,
   ⟨.ld1 (.tmp 42), some 43, none⟩,
   ⟨.len (.tmp 43), some 44, none⟩,
   ⟨.mv (.const (.int .i64 0)), some 45, none⟩])
  (.blk 1 (.loop (.seq (.reg [⟨.bin .lss (.tmp 45) (.tmp 44), some 46, none⟩])
      (.seq (.cond (.tmp 46) (.skip)
      (.exit 1))
      (.seq (.blk 2 (.seq (.reg [⟨.ia 2 (.tmp 43) (.tmp 45), some 47, none⟩,
         ⟨.ldn 2 (.tmp 47), some 48, none⟩,
         ⟨.alloc 69 [.int .i64 0, .int .i64 0], some 7, none⟩,
         ⟨.stn 2 (.tmp 7) (.tmp 48), none, none⟩])
        (.seq (.reg [⟨.ldn 2 (.tmp 7), some 49, none⟩,
         ⟨.call 118 [.tmp 49], some 50, none⟩,
         ⟨.mv (.tmp 50), some 8, none⟩])
        (.seq (.reg [⟨.mv (.tmp 8), some 51, none⟩,
         ⟨.bin .neq (.tmp 51) (.const (.int .i64 0)), some 52, none⟩])
        (.cond (.tmp 52) (.seq (.reg [⟨.mv (.tmp 8), some 53, none⟩,
           ⟨.mv (.tmp 53), some 2, none⟩])
          (.ret))
        (.skip))))))
      (.reg [⟨.bin .add (.tmp 45) (.const (.int .i64 1)), some 54, none⟩,
       ⟨.mv (.tmp 54), some 45, none⟩])))))))
  (.seq (.seq (.drw [⟨.fa 2 (.tmp 5), some 55, none⟩,
   ⟨.ld1 (.tmp 55), some 56, none⟩,
   ⟨.mv (.tmp 56), some 57, none⟩,
   ⟨.fa 4 (.tmp 1), some 58, some (57, true)⟩,
   ⟨.ld1 (.tmp 58), some 59, some (57, true)⟩,
   ⟨.fa 3 (.tmp 1), some 60, some (57, true)⟩,
   ⟨.ld1 (.tmp 60), some 61, some (57, true)⟩,
   ⟨.bin .lss (.tmp 59) (.tmp 61), some 62, some (57, true)⟩,
   ⟨.pick (.tmp 57) (.tmp 62) (.const (.bool false)), some 63, none⟩,
   ⟨.mv (.tmp 63), some 64, none⟩,
   ⟨.fa 0 (.tmp 1), some 65, some (64, false)⟩,
   ⟨.ld1 (.tmp 65), some 66, some (64, false)⟩,
   ⟨.bin .eql (.tmp 66) (.const (.int .i64 15)), some 67, some (64, false)⟩,
   ⟨.mv (.tmp 67), some 68, some (64, false)⟩,
   ⟨.fa 5 (.tmp 1), some 69, some (68, true)⟩,
   ⟨.ld1 (.tmp 69), some 70, some (68, true)⟩,
   ⟨.ia 2 (.tmp 70) (.const (.int .i64 1)), some 71, some (68, true)⟩,
   ⟨.fa 0 (.tmp 71), some 72, some (68, true)⟩,
   ⟨.ld1 (.tmp 72), some 73, some (68, true)⟩,
   ⟨.fa 5 (.tmp 1), some 74, some (68, true)⟩,
   ⟨.ld1 (.tmp 74), some 75, some (68, true)⟩,
   ⟨.ia 2 (.tmp 75) (.const (.int .i64 0)), some 76, some (68, true)⟩,
   ⟨.fa 0 (.tmp 76), some 77, some (68, true)⟩,
   ⟨.ld1 (.tmp 77), some 78, some (68, true)⟩,
   ⟨.bin .lss (.tmp 73) (.tmp 78), some 79, some (68, true)⟩,
   ⟨.pick (.tmp 68) (.tmp 79) (.const (.bool false)), some 80, some (64, false)⟩,
   ⟨.pick (.tmp 64) (.const (.bool true)) (.tmp 80), some 81, none⟩] [[], [0], [1], [2], [3, 2], [2], [5, 2], [4, 6, 2], [2, 7], [8, 2], [9], [10, 9], [11, 9], [12, 9, 9], [13], [14, 13], [15, 13], [16, 13], [17, 13], [13], [19, 13], [20, 13], [21, 13], [22, 13], [18, 23, 13], [13, 24, 9], [9, 25]])
  (.cond (.tmp 81) (.seq (.reg [⟨.mv (.const (.int .i64 5)), some 2, none⟩])
    (.ret))
  (.skip)))
  (.seq (.reg [⟨.mv (.const (.int .i64 0)), some 2, none⟩])
  (.ret))))))))
theorem ok105 : FnOk Tryz.prog 105 82 R105 [.t 2] := ⟨_, _, rfl, rfl, rfl, by kernel_rfl, by kernel_rfl⟩

/-- tintype/find.formOf -/
def R162 : RC :=
  .seq (.reg [⟨.alloc 203 [.bool false, .bool false, .bool false, .int .i64 0], some 2, none⟩])
  (.seq (.seq (.reg [⟨.mv (.tmp 0), some 3, none⟩])
  (.blk 0 (.seq (.seq (.reg [⟨.bin .eql (.tmp 3) (.const (.int .i64 4)), some 5, none⟩,
     ⟨.mv (.tmp 5), some 4, none⟩])
    (.cond (.tmp 4) (.skip)
    (.reg [⟨.bin .eql (.tmp 3) (.const (.int .i64 5)), some 6, none⟩,
       ⟨.mv (.tmp 6), some 4, none⟩])))
    (.cond (.tmp 4) (.seq (.reg [⟨.build [.bool false, .bool false, .bool false, .int .i64 0] [(0, 1, .const (.bool true))], some 7, none⟩,
       ⟨.stn 4 (.tmp 2) (.tmp 7), none, none⟩])
      (.ret))
    (.seq (.reg [⟨.bin .eql (.tmp 3) (.const (.int .i64 6)), some 9, none⟩,
       ⟨.mv (.tmp 9), some 8, none⟩])
      (.cond (.tmp 8) (.seq (.reg [⟨.build [.bool false, .bool false, .bool false, .int .i64 0] [(1, 1, .const (.bool true))], some 10, none⟩,
         ⟨.stn 4 (.tmp 2) (.tmp 10), none, none⟩])
        (.ret))
      (.seq (.seq (.reg [⟨.bin .eql (.tmp 3) (.const (.int .i64 7)), some 12, none⟩,
         ⟨.mv (.tmp 12), some 11, none⟩])
        (.cond (.tmp 11) (.skip)
        (.reg [⟨.bin .eql (.tmp 3) (.const (.int .i64 8)), some 13, none⟩,
           ⟨.mv (.tmp 13), some 11, none⟩])))
        (.cond (.tmp 11) (.seq (.reg [⟨.build [.bool false, .bool false, .bool false, .int .i64 0] [(1, 1, .const (.bool true)), (2, 1, .const (.bool true))], some 14, none⟩,
           ⟨.stn 4 (.tmp 2) (.tmp 14), none, none⟩])
          (.ret))
        (.seq (.reg [⟨.bin .eql (.tmp 3) (.const (.int .i64 14)), some 16, none⟩,
           ⟨.mv (.tmp 16), some 15, none⟩])
          (.cond (.tmp 15) (.seq (.reg [⟨.build [.bool false, .bool false, .bool false, .int .i64 0] [(1, 1, .const (.bool true)), (3, 1, .const (.int .i64 1))], some 17, none⟩,
             ⟨.stn 4 (.tmp 2) (.tmp 17), none, none⟩])
            (.ret))
          (.seq (.reg [⟨.bin .eql (.tmp 3) (.const (.int .i64 15)), some 19, none⟩,
             ⟨.mv (.tmp 19), some 18, none⟩])
            (.cond (.tmp 18) (.seq (.reg [⟨.build [.bool false, .bool false, .bool false, .int .i64 0] [(3, 1, .const (.int .i64 2))], some 20, none⟩,
               ⟨.stn 4 (.tmp 2) (.tmp 20), none, none⟩])
              (.ret))
            (.skip)))))))))))))
  (.seq (.reg [⟨.build [.bool false, .bool false, .bool false, .int .i64 0] [], some 21, none⟩,
   ⟨.stn 4 (.tmp 2) (.tmp 21), none, none⟩])
  (.ret)))
theorem ok162 : FnOk Tryz.prog 162 22 R162 [.cn 2 4] := ⟨_, _, rfl, rfl, rfl, by kernel_rfl, by kernel_rfl⟩

/-- tintype/find.CheckQuestion -/
def R19 : RC :=
  .seq (.reg [⟨.box 29 9 (.tmp 0), some 1, none⟩,
   ⟨.mv (.const (.int .i64 0)), some 2, none⟩])
  (.seq (.seq (.reg [⟨.fa 0 (.tmp 1), some 6, none⟩,
   ⟨.ldn 6 (.tmp 6), some 7, none⟩,
   ⟨.call 52 [.tmp 7], some 8, none⟩,
   ⟨.mv (.tmp 8), some 3, none⟩])
  (.seq (.reg [⟨.mv (.tmp 3), some 9, none⟩,
   ⟨.bin .neq (.tmp 9) (.const (.int .i64 0)), some 10, none⟩])
  (.cond (.tmp 10) (.seq (.reg [⟨.mv (.tmp 3), some 11, none⟩,
     ⟨.mv (.tmp 11), some 2, none⟩])
    (.ret))
  (.skip))))
  (.seq (.seq (.reg [⟨.fa 6 (.tmp 1), some 12, none⟩,
   ⟨.ld1 (.tmp 12), some 13, none⟩,
   ⟨.len (.tmp 13), some 14, none⟩,
   ⟨.bin .gtr (.tmp 14) (.const (.int .i64 5)), some 15, none⟩])
  (.cond (.tmp 15) (.seq (.reg [⟨.mv (.const (.int .i64 4)), some 2, none⟩])
    (.ret))
  (.skip)))
  (.seq (.seq (.reg [⟨.fa 6 (.tmp 1), some 16, none⟩,
   ⟨.ld1 (.tmp 16), some 17, none⟩,
   ⟨.len (.tmp 17), some 18, none⟩,
   ⟨.mv (.const (.int .i64 0)), some 19, none⟩])
  (.blk 0 (.loop (.seq (.reg [⟨.bin .lss (.tmp 19) (.tmp 18), some 20, none⟩])
      (.seq (.cond (.tmp 20) (.skip)
      (.exit 0))
      (.seq (.blk 1 (.seq (.reg [⟨.mv (.tmp 19), some 21, none⟩,
         ⟨.ia 2 (.tmp 17) (.tmp 19), some 22, none⟩,
         ⟨.ldn 2 (.tmp 22), some 23, none⟩,
         ⟨.alloc 71 [.int .i64 0, .bool false], some 5, none⟩,
         ⟨.mv (.tmp 21), some 4, none⟩,
         ⟨.stn 2 (.tmp 5) (.tmp 23), none, none⟩])
        (.seq (.seq (.reg [⟨.fa 0 (.tmp 5), some 24, none⟩,
         ⟨.ld1 (.tmp 24), some 25, none⟩,
         ⟨.call 57 [.tmp 25, .const (.int .i64 1), .const (.int .i64 5)], some 26, none⟩])
        (.cond (.tmp 26) (.seq (.reg [⟨.mv (.const (.int .i64 10)), some 2, none⟩])
          (.ret))
        (.skip)))
        (.seq (.reg [⟨.fa 6 (.tmp 1), some 27, none⟩,
         ⟨.ld1 (.tmp 27), some 28, none⟩,
         ⟨.mv (.tmp 4), some 29, none⟩,
         ⟨.sl 2 (.tmp 28) none (some (.tmp 29)) none, some 30, none⟩,
         ⟨.mkf (.func 58) [] [.tmp 5], some 31, none⟩,
         ⟨.call 47 [.tmp 30, .tmp 31], some 32, none⟩])
        (.cond (.tmp 32) (.seq (.reg [⟨.mv (.const (.int .i64 6)), some 2, none⟩])
          (.ret))
        (.skip))))))
      (.reg [⟨.bin .add (.tmp 19) (.const (.int .i64 1)), some 33, none⟩,
       ⟨.mv (.tmp 33), some 19, none⟩])))))))
  (.seq (.seq (.reg [⟨.fa 7 (.tmp 1), some 34, none⟩,
   ⟨.ld1 (.tmp 34), some 35, none⟩,
   ⟨.call 57 [.tmp 35, .const (.int .i64 0), .const (.int .i64 1000)], some 36, none⟩,
   ⟨.mv (.tmp 36), some 37, none⟩,
   ⟨.fa 8 (.tmp 1), some 38, some (37, false)⟩,
   ⟨.ld1 (.tmp 38), some 39, some (37, false)⟩,
   ⟨.call 57 [.tmp 39, .const (.int .i64 0), .const (.int .i64 1000)], some 40, some (37, false)⟩,
   ⟨.pick (.tmp 37) (.const (.bool true)) (.tmp 40), some 41, none⟩])
  (.cond (.tmp 41) (.seq (.reg [⟨.mv (.const (.int .i64 2)), some 2, none⟩])
    (.ret))
  (.skip)))
  (.seq (.reg [⟨.mv (.const (.int .i64 0)), some 2, none⟩])
  (.ret))))))
theorem ok19 : FnOk Tryz.prog 19 42 R19 [.t 2] := ⟨_, _, rfl, rfl, rfl, by kernel_rfl, by kernel_rfl⟩

/-- tintype/find.CheckQuestion closure 1 -/
def R58 : RC :=
  .seq (.reg [⟨.box 71 2 (.tmp 0), some 2, none⟩,
   ⟨.mv (.const (.bool false)), some 3, none⟩])
  (.seq (.reg [⟨.fa 0 (.tmp 2), some 4, none⟩,
   ⟨.ld1 (.tmp 4), some 5, none⟩,
   ⟨.fa 0 (.tmp 1), some 6, none⟩,
   ⟨.ld1 (.tmp 6), some 7, none⟩,
   ⟨.bin .eql (.tmp 5) (.tmp 7), some 8, none⟩,
   ⟨.mv (.tmp 8), some 3, none⟩])
  (.ret))
theorem ok58 : FnOk Tryz.prog 58 9 R58 [.t 3] := ⟨_, _, rfl, rfl, rfl, by kernel_rfl, by kernel_rfl⟩

/-- slices.ContainsFunc[[]tintype/find.Sort,tintype/find.Sort] -/
def R47 : RC :=
  .seq (.reg [⟨.mv (.const (.bool false)), some 4, none⟩])
  (.seq (.reg [⟨.mv (.tmp 0), some 5, none⟩,
   ⟨.mv (.tmp 1), some 6, none⟩,
   ⟨.call 74 [.tmp 5, .tmp 6], some 7, none⟩,
   ⟨.bin .geq (.tmp 7) (.const (.int .i64 0)), some 8, none⟩,
   ⟨.mv (.tmp 8), some 4, none⟩])
  (.ret))
theorem ok47 : FnOk Tryz.prog 47 9 R47 [.t 4] := ⟨_, _, rfl, rfl, rfl, by kernel_rfl, by kernel_rfl⟩

/-- slices.IndexFunc[[]tintype/find.Sort,tintype/find.Sort] -/
def R74 : RC :=
  .seq (.reg [⟨.mv (.const (.int .i64 0)), some 4, none⟩])
  (.seq (.seq (.reg [⟨.mv (.tmp 0), some 6, none⟩,
   ⟨.len (.tmp 6), some 7, none⟩,
   ⟨.mv (.const (.int .i64 0)), some 8, none⟩])
  (.blk 0 (.loop (.seq (.reg [⟨.bin .lss (.tmp 8) (.tmp 7), some 9, none⟩])
      (.seq (.cond (.tmp 9) (.skip)
      (.exit 0))
      (.seq (.blk 1 (.seq (.reg [⟨.mv (.tmp 8), some 10, none⟩,
         ⟨.mv (.tmp 10), some 5, none⟩])
        (.seq (.reg [⟨.mv (.tmp 1), some 11, none⟩,
         ⟨.mv (.tmp 0), some 12, none⟩,
         ⟨.mv (.tmp 5), some 13, none⟩,
         ⟨.ia 2 (.tmp 12) (.tmp 13), some 14, none⟩,
         ⟨.ldn 2 (.tmp 14), some 15, none⟩,
         ⟨.callv (.tmp 11) [.tmp 15], some 16, none⟩])
        (.cond (.tmp 16) (.seq (.reg [⟨.mv (.tmp 5), some 17, none⟩,
           ⟨.mv (.tmp 17), some 4, none⟩])
          (.ret))
        (.skip)))))
      (.reg [⟨.bin .add (.tmp 8) (.const (.int .i64 1)), some 18, none⟩,
       ⟨.mv (.tmp 18), some 8, none⟩])))))))
  (.seq (.reg [⟨.mv (.const (.int .i64 (-1))), some 4, none⟩])
  (.ret)))
theorem ok74 : FnOk Tryz.prog 74 19 R74 [.t 4] := ⟨_, _, rfl, rfl, rfl, by kernel_rfl, by kernel_rfl⟩


end Go.Proofs.YtmolncgdehfejaaGreatDoor

/- Contracts of the functions that check one condition. -/
namespace Go.Proofs.YtmolncgdehfejaaGreatDoor
open Go
set_option maxRecDepth 10000

def fText (op : Int) : Bool := op == 4 || op == 5
def fLow (op : Int) : Bool := op == 6 || op == 7 || op == 8 || op == 14
def fHigh (op : Int) : Bool := op == 7 || op == 8
def fPl (op : Int) : Int := if op = 14 then 1 else if op = 15 then 2 else 0
def formV (op : Int) : Value := .agg #[.bool (fText op), .bool (fLow op), .bool (fHigh op), .int .i64 (fPl op)]

theorem form_ct (op : Int) (g : Gh) : Ct Tryz.prog 162 [.int .i64 op] g (fun v g' => v = formV op ∧ g' = g) := by
  refine enter ok162 (by simp) fun W => ?_
  refine vc_alloc 100 0 rfl rfl rfl fun β => ?_
  repeat' (refine vc_if 100 rfl rfl rfl (fun h => ?_) (fun h => ?_))
  all_goals refine vc_ret0 100 rfl rfl ⟨?_, rfl⟩
  all_goals simp only [beq_iff_eq, beq_eq_false_iff_ne, ne_eq] at *
  all_goals first
    | (subst_vars; rfl)
    | simp [tup, formV, fText, fLow, fHigh, fPl, *]

def nonEmpty (s : ByteArray) : Bool := !(s.toList == (⟨#[]⟩ : ByteArray).toList)
def checkFormI : Cnd → Int
  | .mk op kids text low high pl =>
    if (op == 3 && ((kids.length : Int) != 1)) || (decide (op ≥ 4) && decide ((kids.length : Int) > 0)) || ((pl.length : Int) != fPl op) || (!fText op && nonEmpty text) || (!fLow op && (low != 0)) || (!fHigh op && (high != 0)) then 1 else 0

theorem checkForm_ct (v : Value) (c : Cnd) (g : Gh) (hv : CndV g v c) : Ct Tryz.prog 103 [v] g (fun r g' => r = .int .i64 (checkFormI c) ∧ g' = g) := by
  obtain ⟨op, kids, text, low, high, pl⟩ := c
  obtain ⟨A1, c1, A2, c2, rfl, hk, hp, h1, h2, h3⟩ := hv.parts
  refine enter ok103 (by simp) fun W => ?_
  refine vc_box 100 0 rfl rfl rfl rfl fun β => ?_
  refine vc_call 100 rfl rfl rfl (form_ct _ _) ?_; rintro _ _ - ⟨rfl, rfl⟩
  refine vc_alloc 100 1 rfl rfl rfl fun β' => ?_
  repeat' (refine vc_if 100 rfl rfl rfl (fun h => ?_) (fun h => ?_))
  all_goals (refine vc_ret0 100 rfl rfl ⟨?_, rfl⟩)
  all_goals (simp only [tup, checkFormI, nonEmpty, Bool.and_true, Bool.true_and, Bool.and_false, Bool.false_and, Bool.or_true, Bool.true_or, Bool.or_false, Bool.false_or, if_true, *]; try rfl)

end Go.Proofs.YtmolncgdehfejaaGreatDoor

/- Contracts of the functions that check one condition's text and numbers. -/
namespace Go.Proofs.YtmolncgdehfejaaGreatDoor
open Go
set_option maxRecDepth 10000

def checkTextI : Cnd → Int
  | .mk op _ text _ _ _ => if op == 4 && !isNameB text then 3 else if op == 5 && outsideB (text.size : Int) 1 200 then 4 else if op == 5 && lowB text then 9 else 0

theorem checkText_ct (v : Value) (c : Cnd) (g : Gh) (hv : CndV g v c) : Ct Tryz.prog 104 [v] g (fun r _ => r = .int .i64 (checkTextI c)) := by
  obtain ⟨op, kids, text, low, high, pl⟩ := c
  obtain ⟨A1, c1, A2, c2, rfl, hk, hp, h1, h2, h3, h4, h5⟩ := hv.parts
  refine enter ok104 (by simp) fun W => ?_
  refine vc_box 100 0 rfl rfl rfl rfl fun β => ?_
  repeat' (first
    | (refine vc_if 100 rfl rfl rfl (fun h => ?_) (fun h => ?_))
    | (refine vc_call 100 rfl rfl rfl (isName_ct _ h4 _) ?_; rintro _ _ - ⟨rfl, rfl⟩)
    | (refine vc_call 100 rfl rfl rfl (outside_ct _ _ _ _) ?_; rintro _ _ - ⟨rfl, rfl⟩)
    | (refine vc_call 100 rfl rfl rfl (low_ct _ h4 _) ?_; rintro _ _ - rfl))
  all_goals (refine vc_ret0 100 rfl rfl ?_)
  all_goals (simp only [tup, checkTextI, Bool.and_true, Bool.true_and, Bool.and_false, Bool.false_and, if_true, *]; try first | rfl | (exfalso; simp_all; done))

def loOf (op : Int) : Int := if op = 6 then 1 else 0
def hiOf (op : Int) : Int := if op = 6 then 1000000 else if op = 7 then 5 else if op = 8 then 6311433599 else if op = 14 then 20100000 else 0
def latOf (l : List Plc) (i : Nat) : Int := match l[i]? with | some p => p.lat | none => 0
def checkNumbersI : Cnd → Int
  | .mk op _ _ low high pl =>
    if (fLow op && outsideB low (loOf op) (hiOf op)) || (fHigh op && outsideB high (loOf op) (hiOf op)) then 2 else
    andThen (checkPlacesI pl) (if (fHigh op && decide (high < low)) || (op == 15 && decide (latOf pl 1 < latOf pl 0)) then 5 else 0)

theorem checkNumbers_ct (v : Value) (c : Cnd) (g : Gh) (hv : CndV g v c) (hpl : (c.pl.length : Int) = fPl c.op) : Ct Tryz.prog 105 [v] g (fun r g' => r = .int .i64 (checkNumbersI c) ∧ g' = g) := by
  obtain ⟨op, kids, text, low, high, pl⟩ := c
  obtain ⟨A1, c1, A2, c2, rfl, hk, hp, h1, h2, h3, h4, h5⟩ := hv.parts
  refine enter ok105 (by simp) fun W => ?_
  refine vc_box 100 0 rfl rfl rfl rfl fun β => ?_
  refine adv_ok 13 ?_
  refine vc_cut (fun env' bs' g' => [1, 3, 4].map env' = [.c (.p 0 0), .c (.v (.int .i64 (loOf op))), .c (.v (.int .i64 (hiOf op)))] ∧
    bs' = [⟨some β, 26, [.v (.int .i64 op), .v (.slice A1 kids.length c1), .v (.string text), .v (.int .i64 low), .v (.int .i64 high), .v (.slice A2 pl.length c2)], true⟩] ∧ g' = g) ?_ (fun _ _ => trivial) ?_
  · repeat' (refine vc_if 100 rfl rfl rfl (fun h => ?_) (fun h => ?_))
    all_goals simp only [beq_iff_eq, beq_eq_false_iff_ne, ne_eq] at *
    all_goals (refine vc_fin 100 rfl ⟨?_, rfl, rfl⟩)
    all_goals (simp only [loOf, hiOf, if_true, if_false, *]; try rfl)
  rintro env' bs' g' ⟨he, rfl, rfl⟩
  refine vc_envs [1, 3, 4] _ he ?_
  clear he env'
  refine vc_call 100 rfl rfl rfl (form_ct _ _) ?_; rintro _ _ - ⟨rfl, rfl⟩
  refine vc_alloc 100 1 rfl rfl rfl fun β' => ?_
  rename_i g1
  refine adv_ok 3 ?_
  refine vc_cut (fun env' bs' g' => [1, 5].map env' = [.c (.p 0 0), .c (.p 1 0)] ∧
    bs' = [⟨some β, 26, [.v (.int .i64 op), .v (.slice A1 kids.length c1), .v (.string text), .v (.int .i64 low), .v (.int .i64 high), .v (.slice A2 pl.length c2)], true⟩,
      ⟨some β', 203, [.v (.bool (fText op)), .v (.bool (fLow op)), .v (.bool (fHigh op)), .v (.int .i64 (fPl op))], true⟩] ∧ g' = g1 ∧
    ((fLow op && outsideB low (loOf op) (hiOf op)) || (fHigh op && outsideB high (loOf op) (hiOf op))) = false) ?_ (fun _ _ => trivial) ?_
  · repeat' (first
      | (refine vc_if 100 rfl rfl rfl (fun h => ?_) (fun h => ?_))
      | (refine vc_call 100 rfl rfl rfl (outside_ct _ _ _ _) ?_; rintro _ _ - ⟨rfl, rfl⟩))
    all_goals first
      | (refine vc_fin 100 rfl ⟨rfl, rfl, rfl, ?_⟩; simp only [Bool.and_true, Bool.true_and, Bool.and_false, Bool.false_and, Bool.or_false, *]; done)
      | (refine vc_ret0 100 rfl rfl ⟨?_, rfl⟩; simp only [tup, checkNumbersI, Bool.and_true, Bool.true_and, Bool.and_false, Bool.false_and, Bool.or_false, Bool.or_true, Bool.true_or, if_true, *]; done)
      | (exfalso; simp_all; done)
  rintro env' bs' _ ⟨he, rfl, rfl, hA⟩
  refine vc_envs [1, 5] _ he ?_
  clear he env'
  have hN : checkNumbersI (.mk op kids text low high pl) = andThen (checkPlacesI pl) (if (fHigh op && decide (high < low)) || (op == 15 && decide (latOf pl 1 < latOf pl 0)) then 5 else 0) := by
    simp only [checkNumbersI, hA]; rfl
  rw [hN]
  obtain ⟨A, c, e, hlen, hat⟩ := hp
  injection e with e1 e2 e3; subst e1; subst e3
  refine vc_loop 100 rfl [1, 5, 43, 44, 45] (fun m vs bs g' => ∃ k : Nat, k ≤ pl.length ∧ m = pl.length - k ∧ vs = [.c (.p 0 0), .c (.p 1 0), .c (.v (.slice A2 pl.length c2)), .c (.v (.int .i64 (pl.length : Int))), .c (.v (.int .i64 (k : Int)))] ∧
      bs = [⟨some β, 26, [.v (.int .i64 op), .v (.slice A1 kids.length c1), .v (.string text), .v (.int .i64 low), .v (.int .i64 high), .v (.slice A2 pl.length c2)], true⟩,
      ⟨some β', 203, [.v (.bool (fText op)), .v (.bool (fLow op)), .v (.bool (fHigh op)), .v (.int .i64 (fPl op))], true⟩] ∧ g' = _ ∧
      checkPlacesI pl = checkPlacesI (pl.drop k)) pl.length ⟨0, Nat.zero_le _, rfl, rfl, rfl, rfl, rfl⟩ ?_
  rintro m vs bs' g' ⟨k, hk, rfl, rfl, rfl, rfl, hI⟩
  refine vc_if 100 rfl rfl rfl (fun h => ?_) (fun h => ?_)
  · have hlt : k < pl.length := by have := of_decide_eq_true h; omega
    obtain ⟨β, off, cs, rfl, hcs, hrow, rfl, hx⟩ := hat k pl[k] (nth_get hlt)
    rw [dropk hlt, checkPlacesI] at hI
    refine vc_ia 100 rfl rfl rfl rfl (by omega) (by omega) ?_
    refine vc_ldn 100 _ rfl rfl rfl rfl hrow ?_
    refine vc_alloc 100 2 rfl rfl rfl fun β1 => ?_
    refine vc_call 100 rfl rfl rfl (checkPlace_ct pl[k] _) ?_; rintro _ _ - ⟨rfl, rfl⟩
    refine vc_if 100 rfl rfl rfl (fun h5 => ?_) (fun h5 => ?_)
    · refine vc_ret0 100 rfl rfl ⟨?_, rfl⟩
      rw [if_neg (neqB h5)] at hI
      simp [tup, andThen, hI, neqB h5]
    · rw [if_pos (eqB h5)] at hI
      refine vc_arith 100 rfl rfl rfl rfl rfl ((k + 1 : Nat) : Int) (wr (by omega) (by omega) (by omega)) ?_
      exact vc_fin 100 rfl ⟨pl.length - (k + 1), [0, 1], by omega, rfl, k + 1, by omega, rfl, rfl, rfl, rfl, hI⟩
  · have hkl : k = pl.length := by have := of_decide_eq_false h; omega
    rw [hkl, List.drop_length, checkPlacesI] at hI
    simp only [hI, andThen, if_true]
    clear h hI hkl hk
    by_cases hH : fHigh op = true
    · by_cases hL : high < low
      · refine vc_drawF mix 100 rfl [1, 7] (fun i => .c (.k true)) rfl rfl ⟨?_, ?_, trivial⟩ ?_
        · refine vc_split 100 56 rfl rfl (fun h => ?_) (fun h => ?_)
          · exact vc_fin 100 rfl ⟨rfl, rfl, fun d hd => by injection hd with hd; subst hd; rfl⟩
          · rw [hH] at h; cases h
        · refine vc_split 100 62 rfl rfl (fun h => ?_) (fun h => ?_)
          · exact vc_fin 100 rfl ⟨rfl, rfl, fun d hd => by injection hd with hd; subst hd; rfl⟩
          · exact absurd hL (of_decide_eq_false h)
        refine vc_ret0 100 rfl rfl ⟨?_, rfl⟩
        simp [tup, hH, hL]
      · have h15 : ¬ op = 15 := by rintro rfl; cases hH
        refine vc_drawF mix 100 rfl [1, 7, 12] (fun i => match i with | 1 => .c (.k true) | _ => .c (.k false)) rfl rfl ⟨?_, ?_, ?_, trivial⟩ ?_
        · refine vc_split 100 56 rfl rfl (fun h => ?_) (fun h => ?_)
          · exact vc_fin 100 rfl ⟨rfl, rfl, fun d hd => by injection hd with hd; subst hd; rfl⟩
          · rw [hH] at h; cases h
        · refine vc_split 100 62 rfl rfl (fun h => ?_) (fun h => ?_)
          · exact absurd (of_decide_eq_true h) hL
          · exact vc_fin 100 rfl ⟨rfl, rfl, fun d hd => by injection hd with hd; subst hd; rfl⟩
        · refine vc_split 100 67 rfl rfl (fun h => ?_) (fun h => ?_)
          · exact absurd (by simpa using h) h15
          · exact vc_fin 100 rfl ⟨rfl, rfl, fun d hd => by injection hd with hd; subst hd; rfl⟩
        refine vc_ret0 100 rfl rfl ⟨?_, rfl⟩
        simp [tup, hH, hL, h15]
    · have hH : fHigh op = false := by simpa using hH
      by_cases h15 : op = 15
      · subst h15
        have hpl2 : pl.length = 2 := by simp only [Cnd.pl, Cnd.op, fPl] at hpl; simp at hpl; omega
        obtain ⟨β0, off0, cs0, rfl, hcs0, hrow0, rfl, hx0⟩ := hat 0 pl[0] (nth_get (by omega))
        obtain ⟨β9, off9, cs9, e, hcs1, hrow1, rfl, hx1⟩ := hat 1 pl[1] (nth_get (by omega))
        injection e with e; injection e with e1 e2; subst e1 e2
        refine vc_drawF mix 100 rfl [1, 12, 16, 18, 21, 23] (fun i => match i with | 1 => .c (.k false) | 12 => .c (.k true) | 16 => .c (.v (.pointer (some ⟨β0, off0 + 1 * 2, none⟩))) | 18 => .c (.v (.int .i64 pl[1].lat)) | 21 => .c (.v (.pointer (some ⟨β0, off0 + 0 * 2, none⟩))) | _ => .c (.v (.int .i64 pl[0].lat))) rfl rfl ⟨?_, ?_, ?_, ?_, ?_, ?_, trivial⟩ ?_
        · refine vc_split 100 56 rfl rfl (fun h => ?_) (fun h => ?_)
          · cases h
          · exact vc_fin 100 rfl ⟨rfl, rfl, fun d hd => by injection hd with hd; subst hd; rfl⟩
        · refine vc_split 100 67 rfl rfl (fun h => ?_) (fun h => ?_)
          · exact vc_fin 100 rfl ⟨rfl, rfl, fun d hd => by injection hd with hd; subst hd; rfl⟩
          · cases h
        · refine vc_ia 100 rfl rfl rfl rfl (by omega) (by omega) ?_
          exact vc_fin 100 rfl ⟨rfl, rfl, fun d hd => by injection hd with hd; subst hd; rfl⟩
        · refine vc_ld1 100 rfl rfl rfl (v := .int .i64 pl[1].lat) hrow1.at0 ?_
          exact vc_fin 100 rfl ⟨rfl, rfl, fun d hd => by injection hd with hd; subst hd; rfl⟩
        · refine vc_ia 100 rfl rfl rfl rfl (by omega) (by omega) ?_
          exact vc_fin 100 rfl ⟨rfl, rfl, fun d hd => by injection hd with hd; subst hd; rfl⟩
        · refine vc_ld1 100 rfl rfl rfl (v := .int .i64 pl[0].lat) hrow0.at0 ?_
          exact vc_fin 100 rfl ⟨rfl, rfl, fun d hd => by injection hd with hd; subst hd; rfl⟩
        have l0 : latOf pl 0 = pl[0].lat := by simp [latOf, hpl2]
        have l1 : latOf pl 1 = pl[1].lat := by simp [latOf, hpl2]
        rw [l0, l1]
        refine vc_if 100 rfl rfl rfl (fun h => ?_) (fun h => ?_)
        · refine vc_ret0 100 rfl rfl ⟨?_, rfl⟩
          simp [tup, hH, of_decide_eq_true h]
        · refine vc_ret0 100 rfl rfl ⟨?_, rfl⟩
          simp [tup, hH, of_decide_eq_false h]
      · refine vc_drawF mix 100 rfl [1, 12] (fun i => .c (.k false)) rfl rfl ⟨?_, ?_, trivial⟩ ?_
        · refine vc_split 100 56 rfl rfl (fun h => ?_) (fun h => ?_)
          · rw [hH] at h; cases h
          · exact vc_fin 100 rfl ⟨rfl, rfl, fun d hd => by injection hd with hd; subst hd; rfl⟩
        · refine vc_split 100 67 rfl rfl (fun h => ?_) (fun h => ?_)
          · exact absurd (by simpa using h) h15
          · exact vc_fin 100 rfl ⟨rfl, rfl, fun d hd => by injection hd with hd; subst hd; rfl⟩
        refine vc_ret0 100 rfl rfl ⟨?_, rfl⟩
        simp [tup, hH, h15]

end Go.Proofs.YtmolncgdehfejaaGreatDoor

/- Functions that are handed one own block, and functions that hand one over: contracts, the way in and out, the calls. No program stands in it. -/
namespace Go.Proofs.YtmolncgdehfejaaGreatDoor
open Go Go.RowKit

theorem at_is {bs : List Bx} {x : C1} {v : Value} (h : x.at bs = some v) : IsC bs x v := by
  cases x with
  | v x => simp only [C1.at, Option.some.injEq] at h; exact h.symm
  | k b => simp only [C1.at, Option.some.injEq] at h; exact h.symm
  | p i o => exact h
  | s i o n c => exact h
  | no => cases h
theorem concE_is {bs : List Bx} {x : EV} {v : Value} (h : conc bs x = some v) : Is bs x v := by
  cases x with
  | c x => exact at_is h
  | g l =>
    simp only [conc] at h
    split at h
    · rename_i r hr
      injection h with h; subst h
      obtain ⟨h1, h2⟩ := concL_some l r hr
      refine ⟨r.toArray, rfl, by simp [h1], fun o x ho => ?_⟩
      obtain ⟨u, e1, e2⟩ := h2 o x ho
      exact ⟨u, by simpa using e2, at_is e1⟩
    · cases h
def concEs (bs : List Bx) : List EV → Option (List Value)
  | [] => some []
  | x :: l => match conc bs x with
    | some u => match concEs bs l with
      | some r => some (u :: r)
      | none => none
    | none => none
theorem concEs_nth {bs : List Bx} : ∀ (l : List EV) (r : List Value), concEs bs l = some r → l.length = r.length ∧ ∀ t x, nth l t = some x → ∃ v, nth r t = some v ∧ Is bs x v
  | [], r, h => by simp only [concEs, Option.some.injEq] at h; subst h; exact ⟨rfl, fun t x hx => by simp [nth] at hx⟩
  | y :: l, r, h => by
    simp only [concEs] at h
    split at h
    · rename_i u hu
      split at h
      · rename_i r' hr
        injection h with h; subst h
        obtain ⟨h1, h2⟩ := concEs_nth l r' hr
        refine ⟨by simp [h1], fun t x hx => ?_⟩
        cases t with
        | zero => simp only [nth, Option.some.injEq] at hx; subst hx; exact ⟨u, rfl, concE_is hu⟩
        | succ t => exact h2 t x (by simpa [nth] using hx)
      · cases h
    · cases h
def envE (evs : List EV) : Env := fun t => match nth evs t with | some x => x | none => .c .no

theorem agr_startE {X : Cx} {bs : List Bx} {evs : List EV} {vals : List Value} (hc : concEs bs evs = some vals) (h : vals.length ≤ X.N) : Agr X bs (envE evs) { tmps := vals.toArray ++ Array.replicate (X.N - vals.toArray.size) undef, defers := [] } := by
  obtain ⟨h1, h2⟩ := concEs_nth evs vals hc
  refine ⟨rfl, by simp; omega, fun t => ?_⟩
  unfold envE
  cases hn : nth evs t with
  | none => exact trivial
  | some x =>
    obtain ⟨v, e1, e2⟩ := h2 t x hn
    have hlt := nth_lt e1
    rw [nth_eq] at e1
    have : (vals.toArray ++ Array.replicate (X.N - vals.toArray.size) undef).getD t undef = v := by
      rw [Array.getD_eq_getD_getElem?, Array.getElem?_append_left (by simpa using hlt)]
      simp [e1]
    rw [this]; exact e2

/-! ### One own block is handed in, and comes back -/
def postO (W0 : World) (g0 : Gh) (β ty : Nat) (R : Value → List Value → Gh → Prop) (e : Ending) (W : World) : Prop :=
  ∃ v cells g, e = .returned v ∧ Fr W0 [β] W ∧ Le g0 g ∧ New W0.heap.size g0 g ∧ Ext g W ∧ HeapAt W β ty cells.toArray ∧ (∀ o, g β o = none) ∧ R v cells g
def CtO (P : Program) (f : Nat) (vals : List Value) (g : Gh) (β ty : Nat) (cells : List Value) (R : Value → List Value → Gh → Prop) : Prop :=
  ∀ W, Ext g W → HeapAt W β ty cells.toArray → (∀ o, g β o = none) → Calls P f vals.toArray W (postO W g β ty R)

def mkXO (P : Program) (N : Nat) (rr : List RR) (W0 : World) (g0 : Gh) (β ty : Nat) (R : Value → List Value → Gh → Prop) : Cx where
  P := P
  N := N
  W0 := W0
  inh := [β]
  g0 := g0
  Q := fun e a W => ∀ fn : Func, resR P fn.results.toList = some rr → bodyPost P fn (postO W0 g0 β ty R) e a W

theorem enterO {P : Program} {f N : Nat} {rc : RC} {rr : List RR} (hok : FnOk P f N rc rr) {vals : List Value} (hlen : vals.length ≤ N) {g : Gh} {β ty : Nat} {cells : List Value} {R : Value → List Value → Gh → Prop} (evs : List EV)
    (hc : concEs [⟨some β, ty, cells.map .v, true⟩] evs = some vals)
    (h : ∀ W, vcS (mkXO P N rr W g β ty R) ⟨[.code rc], envE evs, [⟨some β, ty, cells.map .v, true⟩]⟩ g) : CtO P f vals g β ty cells R := by
  obtain ⟨fn, c, h1, h2, rfl, h4, h5⟩ := hok
  intro W hW hβ hfree
  refine calls_of_wp h1 h2 ?_
  have hsim : Sim (mkXO P fn.ntmps rr W g β ty R) g [⟨some β, ty, cells.map .v, true⟩] W := by
    refine ⟨rfl, rfl, rfl, Nat.le_refl _, fun _ _ _ => rfl, hW, fun _ _ _ h => h, fun _ _ _ h => .inl h, fun i b β' hb ho hβ' => ?_, fun i b β' hb ho hβ' => ?_, fun i j b b' β' hi hj _ _ _ _ => ?_⟩
    · cases i with
      | zero =>
        simp only [nth, Option.some.injEq] at hb; subst hb
        injection hβ' with hβ'; subst hβ'
        refine ⟨cells.toArray, hβ, by simp, fun o x hx => ?_⟩
        rw [nth_map, nth_eq] at hx
        cases hc' : cells[o]? with
        | none => simp [hc'] at hx
        | some u => simp only [hc', Option.map_some, Option.some.injEq] at hx; subst hx; exact ⟨u, by simpa using hc', rfl⟩
      | succ i => simp [nth] at hb
    · cases i with
      | zero =>
        simp only [nth, Option.some.injEq] at hb; subst hb
        injection hβ' with hβ'; subst hβ'
        exact ⟨.inl (by simp [mkXO]), hfree⟩
      | succ i => simp [nth] at hb
    · have h1 := nth_lt hi; have h2 := nth_lt hj
      simp only [List.length_singleton] at h1 h2
      omega
  have := h W [.code c] (.code h4 .nil) _ W hsim (agr_startE hc hlen)
  exact wp_mono this (fun e a w hq => (hq : ∀ fn' : Func, resR P fn'.results.toList = some rr → bodyPost P fn' (postO W g β ty R) e a w) fn h5)

theorem box_cells {bs : List Bx} {b : Bx} {β : Nat} {W : World} {cells : List Value} (h : BoxAt bs b β W) (hc : concL bs b.cells = some cells) : HeapAt W β b.ty cells.toArray := by
  obtain ⟨cs, e1, e2, e3⟩ := h
  obtain ⟨h1, h2⟩ := concL_some _ _ hc
  have : cs = cells.toArray := by
    apply Array.ext
    · simp [e2, h1]
    · intro o ho1 ho2
      have hx : nth b.cells o = some b.cells[o] := by rw [nth_eq]; simp [show o < b.cells.length by omega]
      obtain ⟨u, a1, a2⟩ := e3 o _ hx
      obtain ⟨u', b1, b2⟩ := h2 o _ hx
      have := IsC.at a2 b1
      subst this
      have c1 : cs[o] = u := by simpa [ho1] using a1
      have c2 : cells.toArray[o] = u := by simpa using (List.getElem?_eq_some_iff.1 b2).2
      rw [c1, c2]
  rw [← this]; exact e1

section
variable {P : Program} {N : Nat} {rr : List RR} {W0 : World} {g0 g : Gh} {β ty : Nat} {R : Value → List Value → Gh → Prop}
theorem vc_retO (n i : Nat) {st : St} {ks : List K} {env : Env} {bs : List Bx} (hst : adv n st = ⟨.code .ret :: ks, env, bs⟩) {vs : List Value} (hv : retL env bs rr = some vs)
    {cs : List C1} (hb : nth bs i = some ⟨some β, ty, cs, true⟩) (cells : List Value) (hc : concL bs cs = some cells) (h : R (tup vs) cells g) :
    vcS (mkXO P N rr W0 g0 β ty R) st g := by
  refine adv_ok n ?_
  rw [hst]
  intro ks' hk a W hs ha
  cases hk with
  | code hc' hr =>
    have hc' := resC_inv hc'
    simp only at hc'
    subst hc'
    exact wp_ret (wps_ret (fun fn hfn => ⟨ha.defers, _, run_results (ret_run hs ha _ _ hfn _ hv), tup vs, cells, g, rfl, ⟨hs.os, hs.tape, hs.output, hs.size, hs.old⟩, hs.le, hs.new, hs.ext, box_cells (hs.own i _ β hb rfl rfl) hc, (hs.fresh i _ β hb rfl rfl).2, h⟩) _)
theorem vc_endO (n i : Nat) {st : St} {env : Env} {bs : List Bx} (hst : adv n st = ⟨[], env, bs⟩) {vs : List Value} (hv : retL env bs rr = some vs)
    {cs : List C1} (hb : nth bs i = some ⟨some β, ty, cs, true⟩) (cells : List Value) (hc : concL bs cs = some cells) (h : R (tup vs) cells g) :
    vcS (mkXO P N rr W0 g0 β ty R) st g := by
  refine adv_ok n ?_
  rw [hst]
  intro ks' hk a W hs ha
  cases hk with
  | nil => exact fun fn hfn => ⟨ha.defers, _, run_results (ret_run hs ha _ _ hfn _ hv), tup vs, cells, g, rfl, ⟨hs.os, hs.tape, hs.output, hs.size, hs.old⟩, hs.le, hs.new, hs.ext, box_cells (hs.own i _ β hb rfl rfl) hc, (hs.fresh i _ β hb rfl rfl).2, h⟩
end

section
variable {X : Cx} {g : Gh}
theorem vc_callO (n i : Nat) {st : St} {f : Nat} {args : List Operand} {d : Option Nat} {gd : Option (Nat × Bool)} {l : List RI} {ks : List K} {env : Env} {bs : List Bx} {vals : List Value} {β ty : Nat} {cs : List C1} {R : Value → List Value → Gh → Prop}
    (hst : adv n st = ⟨.ops (⟨.call f args, d, gd⟩ :: l) :: ks, env, bs⟩) (hg : gdv gd env = some true) (hv : concs bs env args = some vals) (hb : nth bs i = some ⟨some β, ty, cs, true⟩) (cells : List Value) (hc : concL bs cs = some cells) (hct : CtO X.P f vals g β ty cells R)
    (h : ∀ v cells' g', Le g g' → R v cells' g' → vcS X ⟨.ops l :: ks, updO env d (ofV v), setN bs i ⟨some β, ty, cells'.map .v, true⟩⟩ g') : vcS X st g := by
  refine adv_ok n ?_
  rw [hst]
  refine ops_step hg fun o h1 h2 h3 ks' hk a W hs ha => ?_
  obtain ⟨c, fn, hop, hcl, hargs, f1, f2, f3⟩ := resO_inv h1
  have hm := concs_map ha args vals hv
  have harr : c.args.map a.eval = vals.toArray := Array.ext' (by rw [Array.toList_map, hargs]; exact hm)
  have hrun : (execOp a.eval o).run X.P W = .ok (.enter f vals.toArray) W := by
    simp [execOp, hop, resolve, hcl, harr, Act.eval, Deferred.ofValue, invoke, run_callFunc f1 f2 f3]
  unfold Oper.wp
  rw [hrun, Oper.upon_enter]
  refine (hct W hs.ext (box_cells (hs.own i _ β hb rfl rfl) hc) (hs.fresh i _ β hb rfl rfl).2).mono ?_
  rintro e W' ⟨v, cells', g', rfl, hf, hl, hn, he, hheap, hfree, hr⟩
  have hlt : ∀ i b β, nth bs i = some b → b.own = true → b.blk = some β → β < W.heap.size := by
    intro i b β h1 h2 h3
    obtain ⟨cs', e, _⟩ := hs.own i b β h1 h2 h3
    exact e.lt
  have hlater : Later bs (setN bs i ⟨some β, ty, cells'.map .v, true⟩) := Later.setN hb rfl
  have look : ∀ j b, nth (setN bs i ⟨some β, ty, cells'.map .v, true⟩) j = some b → (j = i ∧ b = ⟨some β, ty, cells'.map .v, true⟩) ∨ (j ≠ i ∧ nth bs j = some b) := by
    intro j b hj
    rw [nth_setN] at hj
    by_cases e : i = j
    · rw [if_pos ⟨e, by rw [← e]; exact nth_lt hb⟩] at hj
      injection hj with hj
      exact .inl ⟨e.symm, hj.symm⟩
    · rw [if_neg (fun h => e h.1)] at hj
      exact .inr ⟨fun h => e h.symm, hj⟩
  have hs' : Sim X g' (setN bs i ⟨some β, ty, cells'.map .v, true⟩) W' := by
    refine ⟨hf.os.trans hs.os, hf.tape.trans hs.tape, hf.output.trans hs.output, Nat.le_trans hs.size hf.size, fun j hj hn => ?_, he, Le.trans hs.le hl, fun j o v hg => ?_, fun j b β' hj ho hβ' => ?_, fun j b β' hj ho hβ' => ⟨?_, ?_⟩, fun j k b b' β' hj hk ho ho' hβ1 hβ2 => ?_⟩
    · have hne : j ≠ β := by
        rintro rfl
        rcases (hs.fresh i _ j hb rfl rfl).1 with h1 | h1
        · exact hn h1
        · omega
      rw [hf.old j (by have := hs.size; omega) (by simpa using hne)]; exact hs.old j hj hn
    · rcases hn j o v hg with h1 | h1
      · exact hs.new j o v h1
      · have := hs.size; exact .inr (by omega)
    · rcases look j b hj with ⟨rfl, rfl⟩ | ⟨hne, hj'⟩
      · injection hβ' with hβ'; subst hβ'
        refine ⟨cells'.toArray, hheap, by simp, fun o x hx => ?_⟩
        rw [nth_map, nth_eq] at hx
        cases hc' : cells'[o]? with
        | none => simp [hc'] at hx
        | some u => simp only [hc', Option.map_some, Option.some.injEq] at hx; subst hx; exact ⟨u, by simpa using hc', rfl⟩
      · obtain ⟨cs', e1, e2, e3⟩ := hs.own j b β' hj' ho hβ'
        have hne' : β' ≠ β := fun e => hne (hs.apart j i b _ β' hj' hb ho rfl hβ' (by rw [e]))
        exact ⟨cs', e1.of_eq (hf.old β' (hlt j b β' hj' ho hβ') (by simpa using hne')), e2, fun o x hx => let ⟨u, a1, a2⟩ := e3 o x hx; ⟨u, a1, hlater _ _ a2⟩⟩
    · rcases look j b hj with ⟨rfl, rfl⟩ | ⟨hne, hj'⟩
      · injection hβ' with hβ'; subst hβ'; exact (hs.fresh j _ β hb rfl rfl).1
      · exact (hs.fresh j b β' hj' ho hβ').1
    · rcases look j b hj with ⟨rfl, rfl⟩ | ⟨hne, hj'⟩
      · injection hβ' with hβ'; subst hβ'; exact hfree
      · intro o
        cases hg : g' β' o with
        | none => rfl
        | some v =>
          rcases hn β' o v hg with h4 | h4
          · rw [(hs.fresh j b β' hj' ho hβ').2 o] at h4; cases h4
          · have := hlt j b β' hj' ho hβ'; omega
    · rcases look j b hj with ⟨rfl, rfl⟩ | ⟨hne, hj'⟩ <;> rcases look k b' hk with ⟨rfl, rfl⟩ | ⟨hne', hk'⟩
      · rfl
      · exact hs.apart j k _ b' β' hb hk' rfl ho' hβ1 hβ2
      · exact hs.apart j k b _ β' hj' hb ho rfl hβ1 hβ2
      · exact hs.apart j k b b' β' hj' hk' ho ho' hβ1 hβ2
  have := h v cells' g' hl hr ks' hk (a.put d v) W' hs' (put_agr (ha.later hlater) h3 (is_ofV _ v))
  rw [h2]; exact this

/-- An own block stays from now on. -/
theorem vc_pub (n i : Nat) {st : St} {ks : List K} {env : Env} {bs : List Bx} {β ty : Nat} {cs : List C1}
    (hst : adv n st = ⟨ks, env, bs⟩) (hinh : X.inh = []) (hb : nth bs i = some ⟨some β, ty, cs, true⟩) (cells : List Value) (hc : concL bs cs = some cells)
    (h : ∀ g', Le g g' → Row g' β 0 cells → vcS X ⟨ks, env, setN bs i ⟨some β, ty, cs, false⟩⟩ g') : vcS X st g := by
  refine adv_ok n ?_
  rw [hst]
  intro ks' hk a W hs ha
  have hheap := box_cells (hs.own i _ β hb rfl rfl) hc
  have hfree := (hs.fresh i _ β hb rfl rfl).2
  let g' : Gh := fun j o => if j = β then cells[o]? else g j o
  have hle : Le g g' := fun j o v hj => by
    simp only [g']; rw [if_neg]
    · exact hj
    · rintro rfl; rw [hfree o] at hj; cases hj
  have hlater : Later bs (setN bs i ⟨some β, ty, cs, false⟩) := Later.setN hb rfl
  have look : ∀ j b, nth (setN bs i ⟨some β, ty, cs, false⟩) j = some b → b.own = true → j ≠ i ∧ nth bs j = some b := by
    intro j b hj ho
    rw [nth_setN] at hj
    by_cases e : i = j
    · rw [if_pos ⟨e, by rw [← e]; exact nth_lt hb⟩] at hj
      injection hj with hj; subst hj; cases ho
    · rw [if_neg (fun h => e h.1)] at hj
      exact ⟨fun h => e h.symm, hj⟩
  refine h g' hle (fun j v hj => ?_) ks' hk a W ⟨hs.os, hs.tape, hs.output, hs.size, hs.old, fun j o v hj => ?_, Le.trans hs.le hle, fun j o v hj => ?_, fun j b β' hj ho hβ' => ?_, fun j b β' hj ho hβ' => ?_, fun j k b b' β' hj hk ho ho' hβ1 hβ2 => ?_⟩ ⟨ha.defers, ha.size, fun t => hlater.is (ha.is t)⟩
  · simp only [g', if_true, Nat.zero_add]; rw [← nth_eq]; exact hj
  · simp only [g'] at hj
    split at hj
    · rename_i e; subst e
      exact hheap.cell (by simpa using hj)
    · exact hs.ext j o v hj
  · simp only [g'] at hj
    split at hj
    · rename_i e; subst e
      rcases (hs.fresh i _ j hb rfl rfl).1 with h1 | h1
      · rw [hinh] at h1; simp at h1
      · exact .inr h1
    · exact hs.new j o v hj
  · obtain ⟨hne, hj'⟩ := look j b hj ho
    obtain ⟨cs', e1, e2, e3⟩ := hs.own j b β' hj' ho hβ'
    exact ⟨cs', e1, e2, fun o x hx => let ⟨u, a1, a2⟩ := e3 o x hx; ⟨u, a1, hlater _ _ a2⟩⟩
  · obtain ⟨hne, hj'⟩ := look j b hj ho
    have hf := hs.fresh j b β' hj' ho hβ'
    refine ⟨hf.1, fun o => ?_⟩
    simp only [g']
    rw [if_neg]
    · exact hf.2 o
    · rintro rfl; exact hne (hs.apart j i b _ _ hj' hb ho rfl hβ' rfl)
  · exact hs.apart j k b b' β' (look j b hj ho).2 (look k b' hk ho').2 ho ho' hβ1 hβ2

end
end Go.Proofs.YtmolncgdehfejaaGreatDoor

/- Contracts: whether a condition is right. -/
namespace Go.Proofs.YtmolncgdehfejaaGreatDoor
open Go
set_option maxRecDepth 10000

def check3I (c : Cnd) : Int := andThen (checkFormI c) (andThen (checkTextI c) (checkNumbersI c))
mutual
def ckC : Cnd → Int → Int → Int × Int
  | .mk op kids text low high pl, nest, n =>
    if n + 1 > 100 ∨ nest > 12 then (4, n + 1) else if outsideB op 1 16 then (10, n + 1) else if check3I (.mk op kids text low high pl) = 0 then ckL kids (nest + 1) (n + 1) else (check3I (.mk op kids text low high pl), n + 1)
def ckL : List Cnd → Int → Int → Int × Int
  | [], _, n => (0, n)
  | k :: r, nest, n => if (ckC k nest n).1 = 0 then ckL r nest (ckC k nest n).2 else ckC k nest n
end

mutual
theorem ck_le : ∀ (c : Cnd) (nest n : Int), (ckC c nest n).1 = 0 → n < (ckC c nest n).2 ∧ (ckC c nest n).2 ≤ 100 ∧ nest ≤ 12
  | .mk op kids text low high pl, nest, n, h => by
    rw [ckC] at h ⊢
    by_cases h1 : n + 1 > 100 ∨ nest > 12
    · rw [if_pos h1] at h; cases h
    rw [if_neg h1] at h ⊢
    by_cases h2 : outsideB op 1 16 = true
    · rw [if_pos h2] at h; cases h
    rw [if_neg h2] at h ⊢
    by_cases h3 : check3I (.mk op kids text low high pl) = 0
    · rw [if_pos h3] at h ⊢
      have := ckL_le kids (nest + 1) (n + 1) (by omega) h
      omega
    · rw [if_neg h3] at h; exact absurd h h3
theorem ckL_le : ∀ (l : List Cnd) (nest n : Int), n ≤ 100 → (ckL l nest n).1 = 0 → n ≤ (ckL l nest n).2 ∧ (ckL l nest n).2 ≤ 100
  | [], nest, n, hn, _ => by rw [ckL]; exact ⟨Int.le_refl _, hn⟩
  | k :: r, nest, n, hn, h => by
    rw [ckL] at h ⊢
    by_cases h1 : (ckC k nest n).1 = 0
    · rw [if_pos h1] at h ⊢
      have a := ck_le k nest n h1
      have b := ckL_le r nest _ a.2.1 h
      omega
    · rw [if_neg h1] at h; exact absurd h h1
end

theorem fn103 : ∃ fn, Tryz.prog.funcs[103]? = some fn ∧ fn.body.isSome = true ∧ (fn.name == "runtime.NumGoroutine") = false := ⟨_, rfl, rfl, by kernel_rfl⟩
theorem fn104 : ∃ fn, Tryz.prog.funcs[104]? = some fn ∧ fn.body.isSome = true ∧ (fn.name == "runtime.NumGoroutine") = false := ⟨_, rfl, rfl, by kernel_rfl⟩
theorem fn105 : ∃ fn, Tryz.prog.funcs[105]? = some fn ∧ fn.body.isSome = true ∧ (fn.name == "runtime.NumGoroutine") = false := ⟨_, rfl, rfl, by kernel_rfl⟩

theorem formPl {c : Cnd} (h : checkFormI c = 0) : (c.pl.length : Int) = fPl c.op := by
  obtain ⟨op, kids, text, low, high, pl⟩ := c
  simp only [checkFormI] at h
  split at h
  · cases h
  · rename_i hn
    simp only [Bool.not_eq_true, Bool.or_eq_false_iff, bne_eq_false_iff_eq] at hn
    exact hn.1.1.1.2

theorem check75_ct : ∀ (c : Cnd) (v : Value) (g : Gh) (β : Nat) (nest n : Int), CndV g v c → 0 ≤ n → n ≤ 100 → 0 ≤ nest → nest ≤ 13 →
    CtO Tryz.prog 75 [.pointer (some ⟨β, 0, none⟩), v, .int .i64 nest] g β 116 [.int .i64 n] (fun r cells _ => r = .int .i64 (ckC c nest n).1 ∧ cells = [.int .i64 (ckC c nest n).2])
  | .mk op kids text low high pl, v, g, β, nest, n, hv, hn0, hn1, hm0, hm1 => by
    have ih : ∀ k ∈ kids, ∀ (v : Value) (g : Gh) (β : Nat) (nest n : Int), CndV g v k → 0 ≤ n → n ≤ 100 → 0 ≤ nest → nest ≤ 13 →
        CtO Tryz.prog 75 [.pointer (some ⟨β, 0, none⟩), v, .int .i64 nest] g β 116 [.int .i64 n] (fun r cells _ => r = .int .i64 (ckC k nest n).1 ∧ cells = [.int .i64 (ckC k nest n).2]) :=
      fun k hmem => check75_ct k
    have hv0 := hv
    obtain ⟨A1, c1, A2, c2, rfl, hk, hp, h1, h2, h3, h4, h5⟩ := hv.parts
    refine enterO ok75 (by simp) [.c (.p 0 0), .g [.v (.int .i64 op), .v (.slice A1 kids.length c1), .v (.string text), .v (.int .i64 low), .v (.int .i64 high), .v (.slice A2 pl.length c2)], .c (.v (.int .i64 nest))] rfl fun W => ?_
    refine vc_box 100 1 rfl rfl rfl rfl fun β1 => ?_
    refine vc_arith 100 rfl rfl rfl rfl rfl (n + 1) (wr rfl (by omega) (by omega)) ?_
    rw [ckC]
    refine vc_if 100 rfl rfl rfl (fun a1 => ?_) (fun a1 => ?_)
    · refine vc_retO 100 0 rfl rfl rfl _ rfl ?_
      rw [if_pos (.inl (of_decide_eq_true a1))]; exact ⟨rfl, rfl⟩
    refine vc_if 100 rfl rfl rfl (fun a2 => ?_) (fun a2 => ?_)
    · refine vc_retO 100 0 rfl rfl rfl _ rfl ?_
      rw [if_pos (.inr (of_decide_eq_true a2))]; exact ⟨rfl, rfl⟩
    have a1 := of_decide_eq_false a1
    have a2 := of_decide_eq_false a2
    rw [if_neg (by omega)]
    refine vc_call 100 rfl rfl rfl (outside_ct _ _ _ _) ?_; rintro _ _ - ⟨rfl, rfl⟩
    rename_i g
    refine vc_if 100 rfl rfl rfl (fun a3 => ?_) (fun a3 => ?_)
    · refine vc_retO 100 0 rfl rfl rfl _ rfl ?_
      rw [if_pos a3]; exact ⟨rfl, rfl⟩
    rw [if_neg (by rw [a3]; simp)]
    refine vc_bslice 100 2 rfl rfl rfl rfl rfl fun β2 => ?_
    refine vc_loop 100 rfl [0, 2, 4, 32, 33, 34] (fun m vs bs g' => ∃ k : Nat, k ≤ 3 ∧ m = 3 - k ∧ vs = [.c (.p 0 0), .c (.v (.int .i64 nest)), .c (.p 1 0), .c (.s 2 0 3 3), .c (.v (.int .i64 3)), .c (.v (.int .i64 (k : Int)))] ∧
        bs = [⟨some β, 116, [.v (.int .i64 (n + 1))], true⟩, ⟨some β1, 26, [.v (.int .i64 op), .v (.slice A1 kids.length c1), .v (.string text), .v (.int .i64 low), .v (.int .i64 high), .v (.slice A2 pl.length c2)], true⟩,
          ⟨some β2, 76, [.v (.func (.func 103) #[] #[]), .v (.func (.func 104) #[] #[]), .v (.func (.func 105) #[] #[])], true⟩] ∧ Le g g' ∧
        (1 ≤ k → checkFormI (.mk op kids text low high pl) = 0) ∧ (2 ≤ k → checkTextI (.mk op kids text low high pl) = 0) ∧ (3 ≤ k → checkNumbersI (.mk op kids text low high pl) = 0)) 3 ⟨0, by omega, rfl, rfl, rfl, Le.refl g, by omega, by omega, by omega⟩ ?_
    rintro m vs bs' g1 ⟨k, hk3, rfl, rfl, rfl, hle, b1, b2, b3⟩
    have hv1 := hv0.mono hle
    have hk1 : Sl g1 6 (CndR g1) (.slice A1 kids.length c1) kids := hk.mono hle fun cs x h => CndR.mono hle x cs h
    refine vc_if 100 rfl rfl rfl (fun h => ?_) (fun h => ?_)
    · have hk3' : k < 3 := by have := of_decide_eq_true h; omega
      rcases (by omega : k = 0 ∨ k = 1 ∨ k = 2) with rfl | rfl | rfl
      · refine vc_ias 100 rfl rfl rfl rfl rfl rfl (by omega) (by omega) ?_
        refine vc_callv (first := []) (cap := []) 100 rfl rfl rfl rfl fn103 (checkForm_ct _ _ _ hv1) ?_
        rintro _ _ - ⟨rfl, rfl⟩
        refine vc_if 100 rfl rfl rfl (fun h5 => ?_) (fun h5 => ?_)
        · refine vc_retO 100 0 rfl rfl rfl _ rfl ?_
          have e : check3I (.mk op kids text low high pl) = checkFormI (.mk op kids text low high pl) := by rw [check3I, andThen, if_neg (neqB h5)]
          rw [e, if_neg (neqB h5)]; exact ⟨rfl, rfl⟩
        · refine vc_arith 100 rfl rfl rfl rfl rfl ((1 : Nat) : Int) (wr (by omega) (by omega) (by omega)) ?_
          exact vc_fin 100 rfl ⟨2, [0, 1, 2], by omega, rfl, 1, by omega, rfl, rfl, rfl, hle, fun _ => eqB h5, by omega, by omega⟩
      · refine vc_ias 100 rfl rfl rfl rfl rfl rfl (by omega) (by omega) ?_
        refine vc_callv (first := []) (cap := []) 100 rfl rfl rfl rfl fn104 (checkText_ct _ _ _ hv1) ?_
        rintro _ g2 hle2 rfl
        refine vc_if 100 rfl rfl rfl (fun h5 => ?_) (fun h5 => ?_)
        · refine vc_retO 100 0 rfl rfl rfl _ rfl ?_
          have e : check3I (.mk op kids text low high pl) = checkTextI (.mk op kids text low high pl) := by rw [check3I, andThen, if_pos (b1 (by omega)), andThen, if_neg (neqB h5)]
          rw [e, if_neg (neqB h5)]; exact ⟨rfl, rfl⟩
        · refine vc_arith 100 rfl rfl rfl rfl rfl ((2 : Nat) : Int) (wr (by omega) (by omega) (by omega)) ?_
          exact vc_fin 100 rfl ⟨1, [0, 1, 2], by omega, rfl, 2, by omega, rfl, rfl, rfl, Le.trans hle hle2, fun _ => b1 (by omega), fun _ => eqB h5, by omega⟩
      · refine vc_ias 100 rfl rfl rfl rfl rfl rfl (by omega) (by omega) ?_
        refine vc_callv (first := []) (cap := []) 100 rfl rfl rfl rfl fn105 (checkNumbers_ct _ _ _ hv1 (formPl (b1 (by omega)))) ?_
        rintro _ _ - ⟨rfl, rfl⟩
        refine vc_if 100 rfl rfl rfl (fun h5 => ?_) (fun h5 => ?_)
        · refine vc_retO 100 0 rfl rfl rfl _ rfl ?_
          have e : check3I (.mk op kids text low high pl) = checkNumbersI (.mk op kids text low high pl) := by rw [check3I, andThen, if_pos (b1 (by omega)), andThen, if_pos (b2 (by omega))]
          rw [e, if_neg (neqB h5)]; exact ⟨rfl, rfl⟩
        · refine vc_arith 100 rfl rfl rfl rfl rfl ((3 : Nat) : Int) (wr (by omega) (by omega) (by omega)) ?_
          exact vc_fin 100 rfl ⟨0, [0, 1, 2], by omega, rfl, 3, by omega, rfl, rfl, rfl, hle, fun _ => b1 (by omega), fun _ => b2 (by omega), fun _ => eqB h5⟩
    · have hk3' : 3 ≤ k := by have := of_decide_eq_false h; omega
      have e : check3I (.mk op kids text low high pl) = 0 := by rw [check3I, andThen, if_pos (b1 (by omega)), andThen, if_pos (b2 (by omega)), b3 hk3']
      rw [if_pos e]
      clear b1 b2 b3 hk3 hk3' e h hk hv hv0 hp
      obtain ⟨A, c, e, hlen, hat⟩ := hk1
      injection e with e1 e2 e3; subst e1; subst e3
      refine vc_loop 100 rfl [0, 2, 46, 47, 48] (fun m vs bs g' => ∃ (k : Nat) (n' : Int), k ≤ kids.length ∧ m = kids.length - k ∧ vs = [.c (.p 0 0), .c (.v (.int .i64 nest)), .c (.v (.slice A1 kids.length c1)), .c (.v (.int .i64 (kids.length : Int))), .c (.v (.int .i64 (k : Int)))] ∧
        bs = [⟨some β, 116, [.v (.int .i64 n')], true⟩, ⟨some β1, 26, [.v (.int .i64 op), .v (.slice A1 kids.length c1), .v (.string text), .v (.int .i64 low), .v (.int .i64 high), .v (.slice A2 pl.length c2)], true⟩,
          ⟨some β2, 76, [.v (.func (.func 103) #[] #[]), .v (.func (.func 104) #[] #[]), .v (.func (.func 105) #[] #[])], true⟩] ∧ Le g1 g' ∧ 0 ≤ n' ∧ n' ≤ 100 ∧ ckL kids (nest + 1) (n + 1) = ckL (kids.drop k) (nest + 1) n') kids.length ⟨0, n + 1, Nat.zero_le _, rfl, rfl, rfl, Le.refl _, by omega, by omega, rfl⟩ ?_
      rintro m vs bs' g2 ⟨k, n', hk', rfl, rfl, rfl, hle', hn0', hn1', hI⟩
      refine vc_if 100 rfl rfl rfl (fun h => ?_) (fun h => ?_)
      · have hlt : k < kids.length := by have := of_decide_eq_true h; omega
        obtain ⟨β3, off, cs, rfl, hcs, hrow, hcr⟩ := hat k kids[k] (nth_get hlt)
        have hcv : CndV g2 (.agg cs.toArray) kids[k] := ⟨cs, rfl, CndR.mono hle' _ _ hcr⟩
        have hsz := kids[k]
        rw [dropk hlt, ckL] at hI
        have hI' := ih kids[k] (List.getElem_mem hlt) (.agg cs.toArray) g2 β (nest + 1) n' hcv hn0' hn1' (by omega) (by omega)
        generalize kids[k] = kc at *
        obtain ⟨op', kids', text', low', high', pl'⟩ := kc
        obtain ⟨A1', c1', A2', c2', rfl, _⟩ := hcr.parts
        refine vc_ia 100 rfl rfl rfl rfl (by omega) (by omega) ?_
        refine vc_ldn 100 _ rfl rfl rfl rfl (hrow.mono hle') ?_
        refine vc_alloc 100 3 rfl rfl rfl fun β4 => ?_
        refine vc_arith 100 rfl rfl rfl rfl rfl (nest + 1) (wr rfl (by omega) (by omega)) ?_
        refine vc_callO 100 0 rfl rfl rfl rfl _ rfl hI' ?_
        rintro _ _ g3 hle3 ⟨rfl, rfl⟩
        refine vc_if 100 rfl rfl rfl (fun h5 => ?_) (fun h5 => ?_)
        · refine vc_retO 100 0 rfl rfl rfl _ rfl ?_
          rw [if_neg (neqB h5)] at hI
          rw [hI]; exact ⟨rfl, rfl⟩
        · rw [if_pos (eqB h5)] at hI
          have hb := ck_le _ _ _ (eqB h5)
          refine vc_arith 100 rfl rfl rfl rfl rfl ((k + 1 : Nat) : Int) (wr (by omega) (by omega) (by omega)) ?_
          exact vc_fin 100 rfl ⟨kids.length - (k + 1), [0, 1, 2], by omega, rfl, k + 1, _, by omega, rfl, rfl, rfl, Le.trans hle' hle3, by omega, by omega, hI⟩
      · have hkl : k = kids.length := by have := of_decide_eq_false h; omega
        rw [hkl, List.drop_length, ckL] at hI
        refine vc_retO 100 0 rfl rfl rfl _ rfl ?_
        rw [hI]; exact ⟨rfl, rfl⟩
  termination_by c => SizeOf.sizeOf c
  decreasing_by
    have := List.sizeOf_lt_of_mem hmem
    simp only [Cnd.mk.sizeOf_spec]; omega

end Go.Proofs.YtmolncgdehfejaaGreatDoor

/- Contracts: whether a condition, a question is right. -/
namespace Go.Proofs.YtmolncgdehfejaaGreatDoor
open Go
set_option maxRecDepth 10000

def checkCondI (c : Cnd) : Int := (ckC c 0 0).1
theorem checkCond_ct (v : Value) (c : Cnd) (g : Gh) (hv : CndV g v c) : Ct Tryz.prog 52 [v] g (fun r _ => r = .int .i64 (checkCondI c)) := by
  have hv0 := hv
  obtain ⟨op, kids, text, low, high, pl⟩ := c
  obtain ⟨A1, c1, A2, c2, rfl, hk, hp, h1, h2, h3, h4, h5⟩ := hv.parts
  refine enter ok52 (by simp) fun W => ?_
  refine vc_box 100 0 rfl rfl rfl rfl fun β => ?_
  refine vc_box 100 1 rfl rfl rfl rfl fun β1 => ?_
  refine vc_callO 100 1 rfl rfl rfl rfl _ rfl (check75_ct _ _ _ β1 0 0 hv0 (by omega) (by omega) (by omega) (by omega)) ?_
  rintro _ _ g3 hle3 ⟨rfl, rfl⟩
  exact vc_ret0 100 rfl rfl rfl

/-! ### Sorts -/
theorem sameBy_ct (s : Srt) (b : Int) (β : Nat) (g : Gh) (hb : g β 0 = some (.int .i64 b)) : Ct Tryz.prog 58 [.agg #[.int .i64 s.by_, .bool s.down], .pointer (some ⟨β, 0, none⟩)] g (fun v g' => v = .bool (s.by_ == b) ∧ g' = g) := by
  refine enter ok58 (by simp) fun W => ?_
  refine vc_box 100 0 rfl rfl rfl rfl fun β => ?_
  refine vc_ld1 100 rfl rfl rfl hb ?_
  exact vc_ret0 100 rfl rfl ⟨rfl, rfl⟩
theorem fn58 : ∃ fn, Tryz.prog.funcs[58]? = some fn ∧ fn.body.isSome = true ∧ (fn.name == "runtime.NumGoroutine") = false := ⟨_, rfl, rfl, by kernel_rfl⟩
theorem sortIndex_ct (v : Value) (l : List Srt) (b : Int) (β : Nat) (g : Gh) (hb : g β 0 = some (.int .i64 b)) (hv : Sl g 2 SrtR v l) :
    Ct Tryz.prog 74 [v, .func (.func 58) #[] #[.pointer (some ⟨β, 0, none⟩)]] g (fun v g' => (∃ i, v = .int .i64 i ∧ decide (i ≥ 0) = l.any (fun s => s.by_ == b)) ∧ g' = g) := by
  obtain ⟨A, c, rfl, hlen, hat⟩ := hv
  refine enter ok74 (by simp) fun W => ?_
  refine vc_loop 100 rfl [0, 1, 7, 8] (fun m vs bs g' => ∃ k : Nat, k ≤ l.length ∧ m = l.length - k ∧ vs = [.c (.v (.slice A l.length c)), .c (.v (.func (.func 58) #[] #[.pointer (some ⟨β, 0, none⟩)])), .c (.v (.int .i64 (l.length : Int))), .c (.v (.int .i64 (k : Int)))] ∧ bs = [] ∧ g' = g ∧ l.any (fun s => s.by_ == b) = (l.drop k).any (fun s => s.by_ == b)) l.length ⟨0, Nat.zero_le _, rfl, rfl, rfl, rfl, rfl⟩ ?_
  rintro m vs bs' g' ⟨k, hk, rfl, rfl, rfl, rfl, hI⟩
  refine vc_if 100 rfl rfl rfl (fun h => ?_) (fun h => ?_)
  · have hlt : k < l.length := by have := of_decide_eq_true h; omega
    obtain ⟨β', off, cs, rfl, hcs, hrow, ⟨rfl, hx⟩⟩ := hat k l[k] (nth_get hlt)
    rw [dropk hlt] at hI
    refine vc_ia 100 rfl rfl rfl rfl (by omega) (by omega) ?_
    refine vc_ldn 100 _ rfl rfl rfl rfl hrow ?_
    refine vc_callv (first := []) (cap := [.pointer (some ⟨β, 0, none⟩)]) 100 rfl rfl rfl rfl fn58 (sameBy_ct l[k] b β _ hb) ?_
    rintro _ _ - ⟨rfl, rfl⟩
    refine vc_if 100 rfl rfl rfl (fun h => ?_) (fun h => ?_)
    · refine vc_ret0 100 rfl rfl ⟨⟨(k : Int), rfl, ?_⟩, rfl⟩
      rw [hI, List.any_cons, h]; simp
    · refine vc_arith 100 rfl rfl rfl rfl rfl ((k + 1 : Nat) : Int) (wr (by omega) (by omega) (by omega)) ?_
      refine vc_fin 100 rfl ⟨l.length - (k + 1), [], by omega, rfl, k + 1, by omega, rfl, rfl, rfl, rfl, ?_⟩
      rw [hI, List.any_cons, h]; rfl
  · have : k = l.length := by have := of_decide_eq_false h; omega
    refine vc_ret0 100 rfl rfl ⟨⟨-1, rfl, ?_⟩, rfl⟩
    rw [hI, this]; simp
theorem sortContains_ct (v : Value) (l : List Srt) (b : Int) (β : Nat) (g : Gh) (hb : g β 0 = some (.int .i64 b)) (hv : Sl g 2 SrtR v l) :
    Ct Tryz.prog 47 [v, .func (.func 58) #[] #[.pointer (some ⟨β, 0, none⟩)]] g (fun v g' => v = .bool (l.any (fun s => s.by_ == b)) ∧ g' = g) := by
  have hv0 := hv
  obtain ⟨A, c, rfl, hlen, hat⟩ := hv
  refine enter ok47 (by simp) fun W => ?_
  refine vc_call 100 rfl rfl rfl (sortIndex_ct _ l b β _ hb hv0) ?_
  rintro _ _ - ⟨⟨i, rfl, hi⟩, rfl⟩
  refine vc_ret0 100 rfl rfl ⟨?_, rfl⟩
  rw [← hi]; rfl

/-- A question as a value. -/
def QstV (g : Gh) (v : Value) (q : Qst) : Prop :=
  ∃ cs vs, v = .agg (cs ++ [vs, .int .i64 q.from_, .int .i64 q.most]).toArray ∧ CndR g cs q.cond ∧ Sl g 2 SrtR vs q.sorts ∧ I64 q.from_ ∧ I64 q.most
theorem QstV.mono {g g' : Gh} {v : Value} {q : Qst} (h : QstV g v q) (hl : Le g g') : QstV g' v q := by
  obtain ⟨cs, vs, h1, h2, h3, h4⟩ := h
  exact ⟨cs, vs, h1, CndR.mono hl _ _ h2, h3.mono hl fun _ _ h => h, h4⟩

def checkSortsFrom (l : List Srt) : Nat → List Srt → Int
  | _, [] => 0
  | k, s :: r => if outsideB s.by_ 1 5 then 10 else if (l.take k).any (fun t => t.by_ == s.by_) then 6 else checkSortsFrom l (k + 1) r
def checkQuestionI (q : Qst) : Int :=
  andThen (checkCondI q.cond) (if q.sorts.length ≤ 5 then andThen (checkSortsFrom q.sorts 0 q.sorts) (if outsideB q.from_ 0 1000 || outsideB q.most 0 1000 then 2 else 0) else 4)

theorem checkQuestion_ct (v : Value) (q : Qst) (g : Gh) (hv : QstV g v q) : Ct Tryz.prog 19 [v] g (fun r _ => r = .int .i64 (checkQuestionI q)) := by
  obtain ⟨cs, vs, rfl, hc, hs, hf⟩ := hv
  have hcv : CndV g (.agg cs.toArray) q.cond := ⟨cs, rfl, hc⟩
  obtain ⟨cond, sorts, from_, most⟩ := q
  obtain ⟨op, kids, text, low, high, pl⟩ := cond
  obtain ⟨A1, c1, A2, c2, rfl, _⟩ := hc.parts
  obtain ⟨A3, c3, rfl, hl3, hat3⟩ := id hs
  have hl3x : sorts.length ≤ c3 := hl3.1
  refine enter ok19 (by simp) fun W => ?_
  refine vc_box 100 0 rfl rfl rfl rfl fun β => ?_
  refine vc_call 100 rfl rfl rfl (checkCond_ct _ _ _ hcv) ?_
  rintro _ g1 hle1 rfl
  simp only [checkQuestionI]
  refine vc_if 100 rfl rfl rfl (fun h => ?_) (fun h => ?_)
  · refine vc_ret0 100 rfl rfl ?_
    rw [andThen, if_neg (neqB h)]; rfl
  rw [andThen, if_pos (eqB h)]
  refine vc_if 100 rfl rfl rfl (fun h0 => ?_) (fun h0 => ?_)
  · have := of_decide_eq_true h0
    refine vc_ret0 100 rfl rfl ?_
    rw [if_neg (by omega)]; rfl
  have h5 : sorts.length ≤ 5 := by have := of_decide_eq_false h0; omega
  rw [if_pos h5]
  refine vc_loop 100 rfl [1, 17, 18, 19] (fun m vs bs g' => ∃ k : Nat, k ≤ sorts.length ∧ m = sorts.length - k ∧ vs = [.c (.p 0 0), .c (.v (.slice A3 sorts.length c3)), .c (.v (.int .i64 (sorts.length : Int))), .c (.v (.int .i64 (k : Int)))] ∧
      bs = [⟨some β, 29, [.v (.int .i64 op), .v (.slice A1 kids.length c1), .v (.string text), .v (.int .i64 low), .v (.int .i64 high), .v (.slice A2 pl.length c2), .v (.slice A3 sorts.length c3), .v (.int .i64 from_), .v (.int .i64 most)], true⟩] ∧ Le g1 g' ∧
      checkSortsFrom sorts 0 sorts = checkSortsFrom sorts k (sorts.drop k)) sorts.length ⟨0, Nat.zero_le _, rfl, rfl, rfl, Le.refl _, rfl⟩ ?_
  rintro m vs bs' g2 ⟨k, hk, rfl, rfl, rfl, hle2, hI⟩
  refine vc_if 100 rfl rfl rfl (fun h => ?_) (fun h => ?_)
  · have hlt : k < sorts.length := by have := of_decide_eq_true h; omega
    obtain ⟨β', off, cs, rfl, hcs, hrow, ⟨rfl, hx⟩⟩ := hat3 k sorts[k] (nth_get hlt)
    rw [dropk hlt, checkSortsFrom] at hI
    refine vc_ia 100 rfl rfl rfl rfl (by omega) (by omega) ?_
    refine vc_ldn 100 _ rfl rfl rfl rfl ((hrow.mono hle1).mono hle2) ?_
    refine vc_alloc 100 1 rfl rfl rfl fun β1 => ?_
    refine vc_call 100 rfl rfl rfl (outside_ct _ _ _ _) ?_; rintro _ _ - ⟨rfl, rfl⟩
    refine vc_if 100 rfl rfl rfl (fun h6 => ?_) (fun h6 => ?_)
    · refine vc_ret0 100 rfl rfl ?_
      rw [if_pos h6] at hI
      rw [hI]; rfl
    rw [if_neg (by rw [h6]; simp)] at hI
    refine vc_slg 100 0 k c3 rfl rfl rfl rfl ⟨_, rfl⟩ rfl (by omega) (by omega) (by omega) ?_
    refine vc_pub 0 1 rfl rfl rfl _ rfl fun g3 hle3 hrow3 => ?_
    have hcut := ((hs.mono hle1 fun _ _ h => h).mono hle2 fun _ _ h => h).mono hle3 fun _ _ h => h
    have hcut := hcut.cut (p := 0) (q := k) (r := c3) (by omega) (by omega) (by omega) (by omega)
    refine vc_call 100 rfl rfl rfl (sortContains_ct _ _ sorts[k].by_ β1 _ hrow3.at0 hcut) ?_
    rintro _ _ - ⟨rfl, rfl⟩
    rw [List.drop_zero, Nat.sub_zero]
    refine vc_if 100 rfl rfl rfl (fun h7 => ?_) (fun h7 => ?_)
    · refine vc_ret0 100 rfl rfl ?_
      rw [if_pos h7] at hI
      rw [hI]; rfl
    · rw [if_neg (by rw [h7]; simp)] at hI
      refine vc_arith 100 rfl rfl rfl rfl rfl ((k + 1 : Nat) : Int) (wr (by omega) (by omega) (by omega)) ?_
      exact vc_fin 100 rfl ⟨sorts.length - (k + 1), [0], by omega, rfl, k + 1, by omega, rfl, rfl, rfl, Le.trans hle2 hle3, hI⟩
  · have hkl : k = sorts.length := by have := of_decide_eq_false h; omega
    rw [hkl, List.drop_length, checkSortsFrom] at hI
    rw [hI, andThen, if_pos rfl]
    repeat' (first
      | (refine vc_if 100 rfl rfl rfl (fun h => ?_) (fun h => ?_))
      | (refine vc_call 100 rfl rfl rfl (outside_ct _ _ _ _) ?_; rintro _ _ - ⟨rfl, rfl⟩))
    all_goals (refine vc_ret0 100 rfl rfl ?_; simp [tup, *])

end Go.Proofs.YtmolncgdehfejaaGreatDoor

/- What an input's reading gives the contracts: photos, a question, a condition, as they lie in memory. -/
namespace Go.Proofs.YtmolncgdehfejaaGreatDoor
open Go Go.RowKit
set_option maxRecDepth 10000

/-- The cells of a world. -/
def ghW (W : World) : Gh := fun j o => W.cell? ⟨j, o, none⟩
theorem ghW_ext (W : World) : Ext (ghW W) W := fun _ _ _ h => h

theorem cells_read {W : World} {base : Nat} {a : Addr} {n : Nat} {cs : List Value} (h : W.cells? base a n = some cs) (hn : 0 < n) :
    ∃ β off, a = ⟨β, off, none⟩ ∧ lenIs cs n = true ∧ Row (ghW W) β off cs := by
  unfold World.cells? at h
  split at h
  · have hl : cs.length = n := by simpa using mapM_some_length h
    have hg : ∀ i, i < n → W.cell? (a.add i) = cs[i]? := fun i hi => mapM_some_get h i i (by simp [hi])
    have h0 := hg 0 hn
    rw [List.getElem?_eq_getElem (by omega)] at h0
    have hs : a.spot = none := by simpa [Addr.add] using World.cell?_spot h0
    obtain ⟨β, off, spot⟩ := a
    simp only at hs
    subst hs
    refine ⟨β, off, rfl, ?_, fun j v hj => ?_⟩
    · clear hg h0 h
      subst hl
      clear hn
      induction cs with
      | nil => rfl
      | cons x r ih => exact ih
    · rw [nth_eq] at hj
      have hj' : j < n := by rw [← hl]; exact (List.getElem?_eq_some_iff.1 hj).1
      have := hg j hj'
      rw [hj] at this
      unfold ghW
      rw [← this]
      unfold Addr.add
      split
      · rename_i e; subst e; simp
      · rfl
  · cases h

theorem list_choose {α : Type} {Q : Nat → α → Prop} : ∀ (n : Nat), (∀ i, i < n → ∃ y, Q i y) → ∃ l : List α, l.length = n ∧ ∀ i y, nth l i = some y → Q i y
  | 0, _ => ⟨[], rfl, fun i y h => by simp [nth] at h⟩
  | n + 1, h => by
    obtain ⟨l, hl, hq⟩ := list_choose n fun i hi => h i (by omega)
    obtain ⟨y, hy⟩ := h n (by omega)
    refine ⟨l ++ [y], by simp [hl], fun i z hz => ?_⟩
    rw [nth_append] at hz
    split at hz
    · exact hq i z hz
    · rename_i hi
      rw [hl] at hz hi
      have hi2 : i - n = 0 := by
        have := nth_lt hz
        simp at this
        omega
      rw [hi2] at hz
      have : i = n := by omega
      subst this
      simp [nth] at hz
      subst hz
      exact hy

section
variable {H : Type} {enc : TypeId × Value → H} {P : Program} {W : World} {base : Nat} {sp : Nat → Bool} {hd : Bool}

theorem sl_read {α : Type} {R : List Value → α → Prop} {t e size fuel : Nat} {cs : List Value} {x : DataW H × List MemPlace}
    (ht : P.underlying t = some (.slice e)) (hc : P.cellsOf e = size) (h0 : 0 < size)
    (h : DataW.trod enc P W base sp hd fuel t cs = some x)
    (hR : ∀ n cs x, fuel = n + 1 → DataW.trod enc P W base sp hd n e cs = some x → ∃ y, R cs y) : ∃ v xs, cs = [v] ∧ Sl (ghW W) size R v xs := by
  rcases DataW.trod_slice ht h with ⟨rfl, _⟩ | ⟨a, len, cap, elems, rest, n, hf, rfl, _, _, hlc, hcm, hel, hall, _⟩
  · exact ⟨_, [], rfl, none, 0, rfl, ⟨by simp, by omega⟩, fun i y hy => by simp [nth] at hy⟩
  · obtain ⟨xs, hxl, hxs⟩ := list_choose (Q := fun i y => ∃ β off cs, some a = some (⟨β, off, none⟩ : Addr) ∧ lenIs cs size = true ∧ Row (ghW W) β (off + i * size) cs ∧ R cs y) len fun i hi => by
      have hi' := hall i hi
      rw [List.getElem?_eq_getElem (by omega)] at hi'
      obtain ⟨c, hc1, hc2⟩ := Option.bind_eq_some_iff.1 hi'
      rw [hc] at hc1
      obtain ⟨β, off, ha, hl1, hrow⟩ := cells_read hc1 h0
      obtain ⟨y, hy⟩ := hR n c _ hf hc2
      have : ∃ off0, a = ⟨β, off0, none⟩ ∧ off = off0 + i * size := by
        obtain ⟨b0, off0, s0⟩ := a
        unfold Addr.add at ha
        split at ha
        · rename_i e0
          cases ha
          exact ⟨_, rfl, by omega⟩
        · cases ha
          have h00 := hall 0 (by omega)
          rw [List.getElem?_eq_getElem (by omega)] at h00
          obtain ⟨c', hc1', _⟩ := Option.bind_eq_some_iff.1 h00
          rw [hc] at hc1'
          obtain ⟨β', off', ha', _⟩ := cells_read hc1' h0
          simp [Addr.add] at ha'
          obtain ⟨rfl, rfl, rfl⟩ := ha'
          exact ⟨_, rfl, rfl⟩
      obtain ⟨off0, rfl, rfl⟩ := this
      exact ⟨y, β, off0, c, rfl, hl1, hrow, hy⟩
    refine ⟨_, xs, rfl, some a, cap, by rw [hxl], ⟨by omega, by simp only [maxLen] at hcm; omega⟩, fun i y hy => hxs i y hy⟩

def fieldsOf (P : Program) (t : TypeId) : Option (List (TypeId × Nat)) := match P.underlying t with
  | some (.struct fs) => some (fs.toList.map fun f => (f.type, f.offset))
  | _ => none

theorem fieldsOf_some {P : Program} {t : TypeId} {l : List (TypeId × Nat)} (h : fieldsOf P t = some l) : ∃ fs, P.underlying t = some (.struct fs) := by
  unfold fieldsOf at h
  split at h
  · exact ⟨_, by assumption⟩
  · cases h

theorem struct_read {t fuel : Nat} {l : List (TypeId × Nat)} {cs : List Value} {x : DataW H × List MemPlace} (hl : fieldsOf P t = some l)
    (h : DataW.trod enc P W base sp hd fuel t cs = some x) : cs.length = P.cellsOf t ∧ ∃ n, fuel = n + 1 ∧ ∀ i ft off, nth l i = some (ft, off) → ∃ y, DataW.trod enc P W base sp hd n ft ((cs.drop off).take (P.cellsOf ft)) = some y := by
  unfold fieldsOf at hl
  split at hl
  · rename_i fs ht
    injection hl with hl
    obtain ⟨xs, n, hf, _, hlen, hsz, hall⟩ := DataW.trod_struct ht h
    refine ⟨hlen, n, hf, fun i ft off hi => ?_⟩
    subst hl
    rw [nth_eq, List.getElem?_map, Option.map_eq_some_iff] at hi
    obtain ⟨f, hf1, hf2⟩ := hi
    cases hf2
    have hi : i < fs.size := by
      have := (List.getElem?_eq_some_iff.1 hf1).1
      simpa using this
    have := hall i f (by simpa using hf1)
    rw [List.getElem?_eq_getElem (by omega)] at this
    exact ⟨_, this⟩
  · cases hl
end

theorem i64_of_wf {n : Int} (h : (Lit.int .i64 n).wf = true) : I64 n := by
  simpa [I64, Lit.wf, IntKind.min, IntKind.max, IntKind.signed, IntKind.bits] using h

theorem ty3 : Tryz.prog.underlying 3 = some (.int .i64) := by kernel_rfl
theorem ty4 : Tryz.prog.underlying 4 = some .bool := by kernel_rfl
theorem ty9 : Tryz.prog.underlying 9 = some .string := by kernel_rfl
theorem cl3 : Tryz.prog.cellsOf 3 = 1 := by kernel_rfl
theorem cl9 : Tryz.prog.cellsOf 9 = 1 := by kernel_rfl

section
variable {H : Type} {enc : TypeId × Value → H} {W : World} {base : Nat} {sp : Nat → Bool} {hd : Bool} {fuel : Nat} {cs : List Value} {x : DataW H × List MemPlace}

theorem int_read {t : Nat} (ht : Tryz.prog.underlying t = some (.int .i64)) (h : DataW.trod enc Tryz.prog W base sp hd fuel t cs = some x) : ∃ n, IntR cs n := by
  obtain ⟨n, rfl, _, hw⟩ := DataW.trod_int ht h
  exact ⟨n, rfl, i64_of_wf hw⟩
theorem str_read {t : Nat} (ht : Tryz.prog.underlying t = some .string) (h : DataW.trod enc Tryz.prog W base sp hd fuel t cs = some x) : ∃ s, StrR cs s := by
  obtain ⟨s, rfl, _, hw⟩ := DataW.trod_string ht h
  exact ⟨s, rfl, by simp only [maxLen] at hw; omega⟩
theorem bool_read {t : Nat} (ht : Tryz.prog.underlying t = some .bool) (h : DataW.trod enc Tryz.prog W base sp hd fuel t cs = some x) : ∃ b, cs = [.bool b] := by
  obtain ⟨b, rfl, _⟩ := DataW.trod_bool ht h
  exact ⟨b, rfl⟩

theorem fields69 : fieldsOf Tryz.prog 69 = some [(3, 0), (3, 1)] := by kernel_rfl
theorem cells69 : Tryz.prog.cellsOf 69 = 2 := by kernel_rfl
theorem plc_read (h : DataW.trod enc Tryz.prog W base sp hd fuel 69 cs = some x) : ∃ p, PlcR cs p := by
  obtain ⟨hl, n, _, hf⟩ := struct_read fields69 h
  rw [cells69] at hl
  match cs, hl with
  | [a, b], _ =>
    obtain ⟨_, h1⟩ := hf 0 3 0 rfl
    obtain ⟨_, h2⟩ := hf 1 3 1 rfl
    rw [cl3] at h1 h2
    obtain ⟨p, e1, w1⟩ := int_read ty3 h1
    obtain ⟨q, e2, w2⟩ := int_read ty3 h2
    simp at e1 e2
    subst e1; subst e2
    exact ⟨⟨p, q⟩, rfl, w1, w2⟩

theorem fields71 : fieldsOf Tryz.prog 71 = some [(3, 0), (4, 1)] := by kernel_rfl
theorem cells71 : Tryz.prog.cellsOf 71 = 2 := by kernel_rfl
theorem cl4 : Tryz.prog.cellsOf 4 = 1 := by kernel_rfl
theorem srt_read (h : DataW.trod enc Tryz.prog W base sp hd fuel 71 cs = some x) : ∃ p, SrtR cs p := by
  obtain ⟨hl, n, _, hf⟩ := struct_read fields71 h
  rw [cells71] at hl
  match cs, hl with
  | [a, b], _ =>
    obtain ⟨_, h1⟩ := hf 0 3 0 rfl
    obtain ⟨_, h2⟩ := hf 1 4 1 rfl
    rw [cl3] at h1; rw [cl4] at h2
    obtain ⟨p, e1, w1⟩ := int_read ty3 h1
    obtain ⟨q, e2⟩ := bool_read ty4 h2
    simp at e1 e2
    subst e1; subst e2
    exact ⟨⟨p, q⟩, rfl, w1⟩

theorem ty22 : Tryz.prog.underlying 22 = some (.slice 127) := by kernel_rfl
theorem ty23 : Tryz.prog.underlying 23 = some (.slice 26) := by kernel_rfl
theorem ty24 : Tryz.prog.underlying 24 = some (.slice 69) := by kernel_rfl
theorem ty27 : Tryz.prog.underlying 27 = some (.slice 71) := by kernel_rfl
theorem ty33 : Tryz.prog.underlying 33 = some (.slice 3) := by kernel_rfl
theorem ty119 : Tryz.prog.underlying 119 = some (.slice 9) := by kernel_rfl
theorem cl24 : Tryz.prog.cellsOf 24 = 1 := by kernel_rfl
theorem cl33 : Tryz.prog.cellsOf 33 = 1 := by kernel_rfl
theorem cl119 : Tryz.prog.cellsOf 119 = 1 := by kernel_rfl
theorem cl23 : Tryz.prog.cellsOf 23 = 1 := by kernel_rfl
theorem cl27 : Tryz.prog.cellsOf 27 = 1 := by kernel_rfl
theorem cl26 : Tryz.prog.cellsOf 26 = 6 := by kernel_rfl
theorem fields127 : fieldsOf Tryz.prog 127 = some [(3, 0), (9, 1), (3, 2), (3, 3), (24, 4), (3, 5), (3, 6), (3, 7), (3, 8), (119, 9), (9, 10), (33, 11), (4, 12)] := by kernel_rfl
theorem cells127 : Tryz.prog.cellsOf 127 = 13 := by kernel_rfl
theorem fields26 : fieldsOf Tryz.prog 26 = some [(3, 0), (23, 1), (9, 2), (3, 3), (3, 4), (24, 5)] := by kernel_rfl
theorem fields29 : fieldsOf Tryz.prog 29 = some [(26, 0), (27, 6), (3, 7), (3, 8)] := by kernel_rfl
theorem cells29 : Tryz.prog.cellsOf 29 = 9 := by kernel_rfl

theorem pho_read (h : DataW.trod enc Tryz.prog W base sp hd fuel 127 cs = some x) : ∃ p, PhoR (ghW W) cs p := by
  obtain ⟨hl, n, _, hf⟩ := struct_read fields127 h
  rw [cells127] at hl
  match cs, hl with
  | [a0, a1, a2, a3, a4, a5, a6, a7, a8, a9, a10, a11, a12], _ =>
    obtain ⟨_, h0⟩ := hf 0 3 0 rfl
    obtain ⟨_, h1⟩ := hf 1 9 1 rfl
    obtain ⟨_, h2⟩ := hf 2 3 2 rfl
    obtain ⟨_, h3⟩ := hf 3 3 3 rfl
    obtain ⟨_, h4⟩ := hf 4 24 4 rfl
    obtain ⟨_, h5⟩ := hf 5 3 5 rfl
    obtain ⟨_, h6⟩ := hf 6 3 6 rfl
    obtain ⟨_, h7⟩ := hf 7 3 7 rfl
    obtain ⟨_, h8⟩ := hf 8 3 8 rfl
    obtain ⟨_, h9⟩ := hf 9 119 9 rfl
    obtain ⟨_, h10⟩ := hf 10 9 10 rfl
    obtain ⟨_, h11⟩ := hf 11 33 11 rfl
    obtain ⟨_, h12⟩ := hf 12 4 12 rfl
    rw [cl3] at h0 h2 h3 h5 h6 h7 h8
    rw [cl9] at h1 h10
    rw [cl24] at h4
    rw [cl119] at h9
    rw [cl33] at h11
    rw [cl4] at h12
    obtain ⟨x0, e0, w0⟩ := int_read ty3 h0
    obtain ⟨x1, e1, w1⟩ := str_read ty9 h1
    obtain ⟨x2, e2, w2⟩ := int_read ty3 h2
    obtain ⟨x3, e3, w3⟩ := int_read ty3 h3
    obtain ⟨v4, x4, e4, w4⟩ := sl_read ty24 cells69 (by decide) h4 (R := PlcR) fun _ _ _ _ => plc_read
    obtain ⟨x5, e5, w5⟩ := int_read ty3 h5
    obtain ⟨x6, e6, w6⟩ := int_read ty3 h6
    obtain ⟨x7, e7, w7⟩ := int_read ty3 h7
    obtain ⟨x8, e8, w8⟩ := int_read ty3 h8
    obtain ⟨v9, x9, e9, w9⟩ := sl_read ty119 cl9 (by decide) h9 (R := StrR) fun _ _ _ _ => str_read ty9
    obtain ⟨x10, e10, w10⟩ := str_read ty9 h10
    obtain ⟨v11, x11, e11, w11⟩ := sl_read ty33 cl3 (by decide) h11 (R := IntR) fun _ _ _ _ => int_read ty3
    obtain ⟨x12, e12⟩ := bool_read ty4 h12
    simp at e0 e1 e2 e3 e4 e5 e6 e7 e8 e9 e10 e11 e12
    subst e0 e1 e2 e3 e4 e5 e6 e7 e8 e9 e10 e11 e12
    exact ⟨⟨x0, x1, x2, x3, x4, x5, x6, x7, x8, x9, x10, x11, x12⟩, _, _, _, rfl, w4, w9, w11, w0, w1, w2, w3, w5, w6, w7, w8, w10⟩

theorem kids_of {g : Gh} {v : Value} {ks : List Cnd} (h : Sl g 6 (CndR g) v ks) : KidsR g v ks := by
  obtain ⟨A, c, rfl, hl, hat⟩ := h
  rw [KidsR]
  exact ⟨A, c, rfl, hl, (kidsAt_iff g A ks 0).2 fun j x hj => by simpa using hat j x hj⟩

theorem cnd_read : ∀ (fuel : Nat) (cs : List Value) (x : DataW H × List MemPlace), DataW.trod enc Tryz.prog W base sp hd fuel 26 cs = some x → ∃ c, CndR (ghW W) cs c := by
  intro fuel
  induction fuel using Nat.strongRecOn with
  | _ fuel ih =>
  intro cs x h
  obtain ⟨hl, n, hn, hf⟩ := struct_read fields26 h
  rw [cl26] at hl
  match cs, hl with
  | [a0, a1, a2, a3, a4, a5], _ =>
    obtain ⟨_, h0⟩ := hf 0 3 0 rfl
    obtain ⟨_, h1⟩ := hf 1 23 1 rfl
    obtain ⟨_, h2⟩ := hf 2 9 2 rfl
    obtain ⟨_, h3⟩ := hf 3 3 3 rfl
    obtain ⟨_, h4⟩ := hf 4 3 4 rfl
    obtain ⟨_, h5⟩ := hf 5 24 5 rfl
    rw [cl3] at h0 h3 h4
    rw [cl23] at h1
    rw [cl9] at h2
    rw [cl24] at h5
    obtain ⟨x0, e0, w0⟩ := int_read ty3 h0
    obtain ⟨v1, x1, e1, w1⟩ := sl_read ty23 cl26 (by decide) h1 (R := CndR (ghW W)) fun m cs x hm hx => ih m (by omega) cs x hx
    obtain ⟨x2, e2, w2⟩ := str_read ty9 h2
    obtain ⟨x3, e3, w3⟩ := int_read ty3 h3
    obtain ⟨x4, e4, w4⟩ := int_read ty3 h4
    obtain ⟨v5, x5, e5, w5⟩ := sl_read ty24 cells69 (by decide) h5 (R := PlcR) fun _ _ _ _ => plc_read
    simp at e0 e1 e2 e3 e4 e5
    subst e0 e1 e2 e3 e4 e5
    refine ⟨.mk x0 x1 x2 x3 x4 x5, ?_⟩
    rw [CndR]
    exact ⟨_, _, rfl, kids_of w1, w5, w0, w2, w3, w4⟩

theorem phos_read {v : Value} {b0 : Nat} (hv : Value.okWide Tryz.prog W .any b0 22 v) (h : DataW.trod enc Tryz.prog W base sp hd fuel 22 v.cells.toList = some x) : ∃ l, PhosV (ghW W) v l := by
  obtain ⟨a, len, cap, rfl⟩ := Go.WideShapes.okWide_slice ty22 hv
  obtain ⟨v, l, e, w⟩ := sl_read ty22 cells127 (by decide) h (R := PhoR (ghW W)) fun _ _ _ _ => pho_read
  simp [Value.cells] at e
  subst e
  exact ⟨l, w⟩

theorem cndV_read {v : Value} {b0 : Nat} (hv : Value.okWide Tryz.prog W .any b0 26 v) (h : DataW.trod enc Tryz.prog W base sp hd fuel 26 v.cells.toList = some x) : ∃ c, CndV (ghW W) v c := by
  obtain ⟨fs, hfs⟩ := fieldsOf_some fields26
  obtain ⟨cs, rfl, _⟩ := Go.WideShapes.okWide_struct hfs hv
  obtain ⟨c, hc⟩ := cnd_read _ _ _ h
  exact ⟨c, cs.toList, by simp, hc⟩

theorem qst_read {v : Value} {b0 : Nat} (hv : Value.okWide Tryz.prog W .any b0 29 v) (h : DataW.trod enc Tryz.prog W base sp hd fuel 29 v.cells.toList = some x) : ∃ q, QstV (ghW W) v q := by
  obtain ⟨fs, hfs⟩ := fieldsOf_some fields29
  obtain ⟨⟨cs⟩, rfl, hsz⟩ := Go.WideShapes.okWide_struct hfs hv
  obtain ⟨hl, n, hn, hf⟩ := struct_read fields29 h
  rw [cells29] at hl
  match cs, hl, hf with
  | [a0, a1, a2, a3, a4, a5, a6, a7, a8], _, hf =>
    obtain ⟨_, h0⟩ := hf 0 26 0 rfl
    obtain ⟨_, h1⟩ := hf 1 27 6 rfl
    obtain ⟨_, h2⟩ := hf 2 3 7 rfl
    obtain ⟨_, h3⟩ := hf 3 3 8 rfl
    rw [cl26] at h0
    rw [cl27] at h1
    rw [cl3] at h2 h3
    obtain ⟨c, hc⟩ := cnd_read _ _ _ h0
    obtain ⟨v1, x1, e1, w1⟩ := sl_read ty27 cells71 (by decide) h1 (R := SrtR) fun _ _ _ _ => srt_read
    obtain ⟨x2, e2, w2⟩ := int_read ty3 h2
    obtain ⟨x3, e3, w3⟩ := int_read ty3 h3
    simp [Value.cells] at e1 e2 e3
    subst e1 e2 e3
    exact ⟨⟨c, x1, x2, x3⟩, [a0, a1, a2, a3, a4, a5], _, rfl, by simpa [Value.cells] using hc, w1, w2, w3⟩
end

end Go.Proofs.YtmolncgdehfejaaGreatDoor

/- Rules for rows of one's own at places that are not written out; bytes that are one's own; strings of bytes. No program stands in it. -/
namespace Go.Proofs.YtmolncgdehfejaaGreatDoor
open Go Go.RowKit

section
variable {X : Cx} {g : Gh}

theorem vc_sil (n : Nat) {st : St} {op : RO} {d : Option Nat} {gd : Option (Nat × Bool)} {l : List RI} {ks : List K} {env : Env} {bs bs' : List Bx} {x : EV}
    (hst : adv n st = ⟨.ops (⟨op, d, gd⟩ :: l) :: ks, env, bs⟩) (hg : gdv gd env = some true) (hs : sil op env bs = some (x, bs')) (h : vcS X ⟨.ops l :: ks, updO env d x, bs'⟩ g) : vcS X st g := by
  refine adv_ok n ?_
  rw [hst]
  refine ops_value hg fun o ho a W hsim ha => ?_
  obtain ⟨nx, v, W', h1, h2, h3, h4, h5⟩ := sil_ok ho hs hsim ha
  exact ⟨nx, v, W', x, bs', g, h1, h2, h3, h4, h5, h⟩

theorem fits_of {α : Type} : ∀ (l : List α) (o n : Nat), o + n ≤ l.length → fits l o n = true
  | l, 0, 0, _ => by cases l <;> rfl
  | [], 0, n + 1, h => by simp at h
  | x :: l, 0, n + 1, h => by simp only [fits]; exact fits_of l 0 n (by simp at h; omega)
  | [], o + 1, n, h => by simp at h
  | x :: l, o + 1, n, h => by simp only [fits]; exact fits_of l o n (by simp at h; omega)
theorem lenIs_of {α : Type} : ∀ (l : List α) (n : Nat), l.length = n → lenIs l n = true
  | [], 0, _ => rfl
  | _ :: l, n + 1, h => by simp only [lenIs]; exact lenIs_of l n (by simpa using h)
  | [], _ + 1, h => by simp at h
  | _ :: _, 0, h => by simp at h
theorem seg_of {α : Type} : ∀ (l : List α) (o n : Nat) (r : List α), o + n ≤ l.length → r.length = n → (∀ j, j < n → nth l (o + j) = nth r j) → seg l o n = some r
  | _, 0, 0, r, _, h, _ => by have := List.eq_nil_of_length_eq_zero h; subst this; simp [seg]
  | [], 0, n + 1, r, hl, h, hj => by simp at hl
  | x :: l, 0, n + 1, r, hl, h, hj => by
    cases r with
    | nil => simp at h
    | cons y r =>
      have e0 := hj 0 (by omega)
      simp only [nth, Option.some.injEq] at e0
      subst e0
      have ih := seg_of l 0 n r (by simp at hl; omega) (by simpa using h) fun j hjn => by
        have := hj (j + 1) (by omega)
        simpa [nth] using this
      simp [seg, ih]
  | [], o + 1, n, r, hl, h, hj => by simp at hl
  | x :: l, o + 1, n, r, hl, h, hj => by
    have ih := seg_of l o n r (by simp at hl; omega) h fun j hjn => by
      have := hj j hjn
      rw [show o + 1 + j = (o + j) + 1 by omega] at this
      simpa [nth] using this
    cases n <;> simpa [seg] using ih

theorem vc_ld1o (n : Nat) {st : St} {x : Operand} {d : Option Nat} {gd : Option (Nat × Bool)} {l : List RI} {ks : List K} {env : Env} {bs : List Bx} {i o β ty : Nat} {cells : List C1} (c : C1)
    (hst : adv n st = ⟨.ops (⟨.ld1 x, d, gd⟩ :: l) :: ks, env, bs⟩) (hg : gdv gd env = some true) (hx : ev env x = .c (.p i o)) (hb : nth bs i = some ⟨some β, ty, cells, true⟩) (hc : nth cells o = some c)
    (h : vcS X ⟨.ops l :: ks, updO env d (.c c), bs⟩ g) : vcS X st g :=
  vc_sil n hst hg (by simp only [sil, hx, hb, hc]) h
theorem vc_ldno (n : Nat) {st : St} {m : Nat} {x : Operand} {d : Option Nat} {gd : Option (Nat × Bool)} {l : List RI} {ks : List K} {env : Env} {bs : List Bx} {i o β ty : Nat} {cells : List C1} (r : List C1)
    (hst : adv n st = ⟨.ops (⟨.ldn m x, d, gd⟩ :: l) :: ks, env, bs⟩) (hg : gdv gd env = some true) (hx : ev env x = .c (.p i o)) (hb : nth bs i = some ⟨some β, ty, cells, true⟩) (hc : seg cells o m = some r)
    (h : vcS X ⟨.ops l :: ks, updO env d (.g r), bs⟩ g) : vcS X st g :=
  vc_sil n hst hg (by simp only [sil, hx, hb, hc]) h
theorem vc_st1o (n : Nat) {st : St} {a x : Operand} {d : Option Nat} {gd : Option (Nat × Bool)} {l : List RI} {ks : List K} {env : Env} {bs : List Bx} {i o β ty : Nat} {cells : List C1} {y : C1}
    (hst : adv n st = ⟨.ops (⟨.st1 a x, d, gd⟩ :: l) :: ks, env, bs⟩) (hg : gdv gd env = some true) (ha : ev env a = .c (.p i o)) (hb : nth bs i = some ⟨some β, ty, cells, true⟩) (hx : ev env x = .c y) (hy : y.one = true) (ho : o < cells.length)
    (h : vcS X ⟨.ops l :: ks, updO env d (.c (.v undef)), setN bs i ⟨some β, ty, setN cells o y, true⟩⟩ g) : vcS X st g :=
  vc_sil n hst hg (by simp only [sil, ha, hb, hx, hy, fits_of cells o 1 (by omega)]) h
theorem vc_stno (n : Nat) {st : St} {m : Nat} {a x : Operand} {d : Option Nat} {gd : Option (Nat × Bool)} {l : List RI} {ks : List K} {env : Env} {bs : List Bx} {i o β ty : Nat} {cells : List C1} {ys : List C1}
    (hst : adv n st = ⟨.ops (⟨.stn m a x, d, gd⟩ :: l) :: ks, env, bs⟩) (hg : gdv gd env = some true) (ha : ev env a = .c (.p i o)) (hb : nth bs i = some ⟨some β, ty, cells, true⟩) (hx : ev env x = .g ys) (hlen : lenIs ys m = true) (hy : allOne ys = true) (ho : o + m ≤ cells.length)
    (h : vcS X ⟨.ops l :: ks, updO env d (.c (.v undef)), setN bs i ⟨some β, ty, putSeg cells o ys, true⟩⟩ g) : vcS X st g :=
  vc_sil n hst hg (by simp only [sil, ha, hb, hx, hlen, hy, fits_of cells o m ho]) h

/-! ### Bytes -/
def byteV (c : UInt8) : C1 := .v (.int .u8 (c.toNat : Int))
theorem vc_byteso (n k : Nat) {st : St} {src dst T : Nat} {x : Operand} {d : Option Nat} {gd : Option (Nat × Bool)} {l : List RI} {ks : List K} {env : Env} {bs : List Bx} {s : ByteArray}
    (hst : adv n st = ⟨.ops (⟨.raw (.convert src dst x) T, d, gd⟩ :: l) :: ks, env, bs⟩) (hg : gdv gd env = some true) (hx : ev env x = .c (.v (.string s))) (hk : lenIs bs k = true)
    (h1 : X.P.underlying src = some .string) (h2 : X.P.underlying dst = some (.slice 5)) (h3 : X.P.underlying 5 = some (.int .u8))
    (h : ∀ β cap (spare : List Value), s.data.toList.length + spare.length = cap →
      vcS X ⟨.ops l :: ks, updO env d (.c (.s k 0 s.data.toList.length cap)), bs ++ [⟨some β, 5, s.data.toList.map byteV ++ spare.map .v, true⟩]⟩ g) : vcS X st g := by
  refine adv_ok n ?_
  rw [hst]
  refine ops_value hg fun o ho A W hsim ha => ?_
  obtain ⟨hop, _⟩ := resO_inv ho
  have hk := lenIs_eq _ _ hk
  have ex := is_ev ha x; rw [hx] at ex
  have hrun := run_bytes_of_string (P := X.P) W src dst 5 s h1 h2 h3
  have hsz : s.data.toList.length = s.size := by simp
  generalize hc : grownCap W s.size 0 5 = cap at hrun
  have hcap : s.size ≤ cap := by rw [← hc]; exact grownCap_ge W s.size 0 5
  generalize hW' : W.drew.alloc (.cells (bytesRow s cap) 5 ((bytesRow s cap).size, (bytesRow s cap).size + 1)) = W' at hrun
  have hheap : W'.heap = W.heap.push (.cells (bytesRow s cap) 5 ((bytesRow s cap).size, (bytesRow s cap).size + 1)) := by rw [← hW']; rfl
  have hold : ∀ j, j < W.heap.size → W'.heap[j]? = W.heap[j]? := by
    intro j hj; rw [hheap, Array.getElem?_push, if_neg (by omega)]
  have hgrow : Sim X g bs W' := by
    refine hsim.grow (g' := g) ⟨by rw [← hW']; rfl, by rw [← hW']; rfl, by rw [← hW']; rfl, by rw [hheap]; simp, fun j hj _ => hold j hj⟩ (Le.refl g) (fun j o v h => .inl h) fun j o v hj => ?_
    have h5 := hsim.ext j o v hj
    have hlt : j < W.heap.size := by have := World.block_lt_of_cell? W _ h5; simpa using this
    simp only [World.cell?] at h5 ⊢
    rw [hold j hlt]; exact h5
  -- the new block is told
  let spare : List Value := List.replicate (cap - s.size) (.int .u8 0)
  have hrow : (bytesRow s cap).toList = (s.data.toList.map fun b => Value.int .u8 (b.toNat : Int)) ++ spare := by simp [bytesRow, spare]
  have hlenr : (bytesRow s cap).size = s.size + (cap - s.size) := by rw [← Array.length_toList, hrow]; simp [spare]
  let b : Bx := ⟨some W.heap.size, 5, s.data.toList.map byteV ++ spare.map .v, true⟩
  have look : ∀ i c, nth (bs ++ [b]) i = some c → nth bs i = some c ∨ (i = bs.length ∧ c = b) := by
    intro i c hi
    rw [nth_append] at hi
    split at hi
    · exact .inl hi
    · rename_i hge
      have hlt := nth_lt hi
      simp only [List.length_singleton] at hlt
      have : i = bs.length := by omega
      subst this
      simp only [Nat.sub_self, nth, Option.some.injEq] at hi
      exact .inr ⟨rfl, hi.symm⟩
  have hl : Later bs (bs ++ [b]) := Later.append _ _
  have hlt : ∀ i c β, nth bs i = some c → c.own = true → c.blk = some β → β < W.heap.size := by
    intro i c β h1 h2 h3
    obtain ⟨cs', e, _⟩ := hsim.own i c β h1 h2 h3
    exact e.lt
  have hbox : BoxAt bs b W.heap.size W' := by
    refine ⟨bytesRow s cap, ⟨_, by rw [hheap]; simp [b]; rfl, .inr ⟨rfl, Nat.le_refl _⟩⟩, by simp [b, hlenr, spare], fun o y hy => ?_⟩
    simp only [b] at hy
    rw [← Array.getElem?_toList, hrow]
    rw [nth_append] at hy
    split at hy
    · rename_i hlo
      rw [List.getElem?_append_left (by simpa using hlo)]
      rw [nth_map, nth_eq] at hy
      cases hcc : s.data.toList[o]? with
      | none => simp [hcc] at hy
      | some c =>
        simp only [hcc, Option.map_some, Option.some.injEq] at hy
        subst hy
        exact ⟨.int .u8 (c.toNat : Int), by simp only [List.getElem?_map, hcc, Option.map_some], rfl⟩
    · rename_i hge
      rw [List.getElem?_append_right (by simpa using hge)]
      rw [nth_map, nth_eq] at hy
      simp only [List.length_map] at hy ⊢
      cases hcc : spare[o - s.data.toList.length]? with
      | none => rw [hcc] at hy; cases hy
      | some u =>
        simp only [hcc, Option.map_some, Option.some.injEq] at hy
        subst hy
        exact ⟨u, rfl, rfl⟩
  have hsim2 : Sim X g (bs ++ [b]) W' := by
    refine ⟨hgrow.os, hgrow.tape, hgrow.output, hgrow.size, hgrow.old, hgrow.ext, hgrow.le, hgrow.new, fun i c β hi ho hβ => ?_, fun i c β hi ho hβ => ?_, fun i j c c' β hi hj ho ho' hβ hβ' => ?_⟩
    · rcases look i c hi with hi' | ⟨rfl, rfl⟩
      · exact (hgrow.own i c β hi' ho hβ).later hl
      · injection hβ with hβ; subst hβ
        exact hbox.later hl
    · rcases look i c hi with hi' | ⟨rfl, rfl⟩
      · exact hgrow.fresh i c β hi' ho hβ
      · injection hβ with hβ; subst hβ
        refine ⟨.inr hsim.size, fun o => ?_⟩
        cases hgo : g W.heap.size o with
        | none => rfl
        | some v =>
          have := World.block_lt_of_cell? W _ (hsim.ext _ _ _ hgo)
          simp at this
    · rcases look i c hi with hi' | ⟨rfl, rfl⟩ <;> rcases look j c' hj with hj' | ⟨rfl, rfl⟩
      · exact hgrow.apart i j c c' β hi' hj' ho ho' hβ hβ'
      · injection hβ' with hβ'; subst hβ'
        have := hlt i c _ hi' ho hβ; omega
      · injection hβ with hβ; subst hβ
        have := hlt j c' _ hj' ho' hβ'; omega
      · rfl
  refine ⟨.value (.slice (some ⟨W.heap.size, 0, none⟩) s.size cap), _, W', .c (.s k 0 s.data.toList.length cap), bs ++ [b], g, ?_, .inl rfl, ?_, hsim2, hl, h W.heap.size cap spare (by simp [spare]; omega)⟩
  · simp [execOp, hop, show A.eval x = _ from ex, hrun]
  · simp [Is, IsC, C1.at, nth_append, ← hk, nth, b]

/-- string(b) of an own row of bytes. -/
theorem vc_bstr (n : Nat) {st : St} {src dst T : Nat} {x : Operand} {d : Option Nat} {gd : Option (Nat × Bool)} {l : List RI} {ks : List K} {env : Env} {bs : List Bx} {i off cap e β ty : Nat} {cells : List C1} (bytes : List UInt8)
    (hst : adv n st = ⟨.ops (⟨.raw (.convert src dst x) T, d, gd⟩ :: l) :: ks, env, bs⟩) (hg : gdv gd env = some true) (hx : ev env x = .c (.s i off bytes.length cap)) (hb : nth bs i = some ⟨some β, ty, cells, true⟩)
    (h1 : X.P.underlying src = some (.slice e)) (h2 : X.P.underlying e = some (.int .u8)) (h3 : X.P.underlying dst = some .string) (hc : ∀ j c, bytes[j]? = some c → nth cells (off + j) = some (byteV c))
    (h : vcS X ⟨.ops l :: ks, updO env d (.c (.v (.string ⟨bytes.toArray⟩))), bs⟩ g) : vcS X st g := by
  refine adv_ok n ?_
  rw [hst]
  refine ops_value hg fun o ho A W hsim ha => ?_
  obtain ⟨hop, _⟩ := resO_inv ho
  have ex := is_ev ha x; rw [hx] at ex
  simp only [Is, IsC, C1.at, hb, Option.some.injEq] at ex
  have hrun := run_convert_bytes_back (P := X.P) W src dst e ⟨β, off, none⟩ cap bytes h1 h2 h3 fun j hj => by
    obtain ⟨u, e1, e2⟩ := (hsim.own i _ β hb rfl rfl).cell (hc j bytes[j] (by simp [hj]))
    rw [addr_add, e1]
    simp only [byteV, IsC] at e2
    rw [e2]
  exact ⟨.value (.string ⟨bytes.toArray⟩), _, W, .c (.v (.string ⟨bytes.toArray⟩)), bs, g, by simp [execOp, hop, ← ex, hrun], .inl rfl, rfl, hsim, Later.refl _, h⟩

end
end Go.Proofs.YtmolncgdehfejaaGreatDoor

/- The resolved forms of the functions that say whether a condition holds, and the closed facts on them. Printed by wip/gen.py. -/
namespace Go.Proofs.YtmolncgdehfejaaGreatDoor
open Go
set_option maxRecDepth 10000

/-- tintype/find.ids -/
def R60 : RC :=
  .seq (.reg [⟨.mv (.const (.slice none 0 0)), some 2, none⟩])
  (.seq (.reg [⟨.mv (.const (.slice none 0 0)), some 3, none⟩])
  (.seq (.seq (.reg [⟨.mv (.tmp 0), some 6, none⟩,
   ⟨.len (.tmp 6), some 7, none⟩,
   ⟨.mv (.const (.int .i64 0)), some 8, none⟩])
  (.blk 0 (.loop (.seq (.reg [⟨.bin .lss (.tmp 8) (.tmp 7), some 9, none⟩])
      (.seq (.cond (.tmp 9) (.skip)
      (.exit 0))
      (.seq (.blk 1 (.seq (.reg [⟨.ia 13 (.tmp 6) (.tmp 8), some 10, none⟩,
         ⟨.ldn 13 (.tmp 10), some 11, none⟩,
         ⟨.alloc 127 [.int .i64 0, .string ⟨#[]⟩, .int .i64 0, .int .i64 0, .slice none 0 0, .int .i64 0, .int .i64 0, .int .i64 0, .int .i64 0, .slice none 0 0, .string ⟨#[]⟩, .slice none 0 0, .bool false], some 5, none⟩,
         ⟨.stn 13 (.tmp 5) (.tmp 11), none, none⟩])
        (.reg [⟨.mv (.tmp 3), some 12, none⟩,
         ⟨.fa 0 (.tmp 5), some 13, none⟩,
         ⟨.ld1 (.tmp 13), some 14, none⟩,
         ⟨.bslice 3 1 1 [.int .i64 0] [(0, .tmp 14)], some 15, none⟩,
         ⟨.append 3 1 8 (.int .i64 0) (.tmp 12) (.tmp 15), some 16, none⟩,
         ⟨.mv (.tmp 16), some 3, none⟩])))
      (.reg [⟨.bin .add (.tmp 8) (.const (.int .i64 1)), some 17, none⟩,
       ⟨.mv (.tmp 17), some 8, none⟩])))))))
  (.seq (.reg [⟨.mv (.tmp 3), some 18, none⟩,
   ⟨.call 89 [.tmp 18], some 19, none⟩,
   ⟨.mv (.tmp 19), some 2, none⟩])
  (.ret))))
theorem ok60 : FnOk Tryz.prog 60 20 R60 [.t 2] := ⟨_, _, rfl, rfl, rfl, by kernel_rfl, by kernel_rfl⟩

/-- slices.Clip[[]int,int] -/
def R89 : RC :=
  .seq (.reg [⟨.mv (.const (.slice none 0 0)), some 2, none⟩])
  (.seq (.reg [⟨.mv (.tmp 0), some 3, none⟩,
   ⟨.mv (.tmp 0), some 4, none⟩,
   ⟨.len (.tmp 4), some 5, none⟩,
   ⟨.mv (.tmp 0), some 6, none⟩,
   ⟨.len (.tmp 6), some 7, none⟩,
   ⟨.sl 1 (.tmp 3) none (some (.tmp 5)) (some (.tmp 7)), some 8, none⟩,
   ⟨.mv (.tmp 8), some 2, none⟩])
  (.ret))
theorem ok89 : FnOk Tryz.prog 89 9 R89 [.t 2] := ⟨_, _, rfl, rfl, rfl, by kernel_rfl, by kernel_rfl⟩

/-- tintype/find.holding -/
def R61 : RC :=
  .seq (.reg [⟨.mv (.const (.slice none 0 0)), some 4, none⟩])
  (.seq (.reg [⟨.mv (.const (.slice none 0 0)), some 5, none⟩])
  (.seq (.seq (.reg [⟨.mv (.tmp 0), some 8, none⟩,
   ⟨.len (.tmp 8), some 9, none⟩,
   ⟨.mv (.const (.int .i64 0)), some 10, none⟩])
  (.blk 0 (.loop (.seq (.reg [⟨.bin .lss (.tmp 10) (.tmp 9), some 11, none⟩])
      (.seq (.cond (.tmp 11) (.skip)
      (.exit 0))
      (.seq (.blk 1 (.seq (.reg [⟨.ia 13 (.tmp 8) (.tmp 10), some 12, none⟩,
         ⟨.ldn 13 (.tmp 12), some 13, none⟩,
         ⟨.alloc 127 [.int .i64 0, .string ⟨#[]⟩, .int .i64 0, .int .i64 0, .slice none 0 0, .int .i64 0, .int .i64 0, .int .i64 0, .int .i64 0, .slice none 0 0, .string ⟨#[]⟩, .slice none 0 0, .bool false], some 7, none⟩,
         ⟨.stn 13 (.tmp 7) (.tmp 13), none, none⟩])
        (.seq (.reg [⟨.mv (.tmp 1), some 14, none⟩,
         ⟨.ldn 13 (.tmp 7), some 15, none⟩,
         ⟨.inv (.tmp 14) "tintype/find.holds" [.tmp 15], some 16, none⟩])
        (.cond (.tmp 16) (.reg [⟨.mv (.tmp 5), some 17, none⟩,
           ⟨.ldn 13 (.tmp 7), some 18, none⟩,
           ⟨.bslice 127 13 1 [.int .i64 0, .string ⟨#[]⟩, .int .i64 0, .int .i64 0, .slice none 0 0, .int .i64 0, .int .i64 0, .int .i64 0, .int .i64 0, .slice none 0 0, .string ⟨#[]⟩, .slice none 0 0, .bool false] [(0, .tmp 18)], some 19, none⟩,
           ⟨.append 127 13 168 (.agg #[.int .i64 0, .string ⟨#[]⟩, .int .i64 0, .int .i64 0, .slice none 0 0, .int .i64 0, .int .i64 0, .int .i64 0, .int .i64 0, .slice none 0 0, .string ⟨#[]⟩, .slice none 0 0, .bool false]) (.tmp 17) (.tmp 19), some 20, none⟩,
           ⟨.mv (.tmp 20), some 5, none⟩])
        (.skip)))))
      (.reg [⟨.bin .add (.tmp 10) (.const (.int .i64 1)), some 21, none⟩,
       ⟨.mv (.tmp 21), some 10, none⟩])))))))
  (.seq (.reg [⟨.mv (.tmp 5), some 22, none⟩,
   ⟨.mv (.tmp 22), some 4, none⟩])
  (.ret))))
theorem ok61 : FnOk Tryz.prog 61 23 R61 [.t 4] := ⟨_, _, rfl, rfl, rfl, by kernel_rfl, by kernel_rfl⟩

/-- tintype/find.nodeOf -/
def R62 : RC :=
  .seq (.reg [⟨.box 26 6 (.tmp 0), some 1, none⟩,
   ⟨.mv (.const (.nilIface)), some 2, none⟩])
  (.seq (.reg [⟨.mv (.const (.slice none 0 0)), some 3, none⟩])
  (.seq (.seq (.reg [⟨.fa 1 (.tmp 1), some 6, none⟩,
   ⟨.ld1 (.tmp 6), some 7, none⟩,
   ⟨.len (.tmp 7), some 8, none⟩,
   ⟨.mv (.const (.int .i64 0)), some 9, none⟩])
  (.blk 0 (.loop (.seq (.reg [⟨.bin .lss (.tmp 9) (.tmp 8), some 10, none⟩])
      (.seq (.cond (.tmp 10) (.skip)
      (.exit 0))
      (.seq (.blk 1 (.seq (.reg [⟨.ia 6 (.tmp 7) (.tmp 9), some 11, none⟩,
         ⟨.ldn 6 (.tmp 11), some 12, none⟩,
         ⟨.alloc 26 [.int .i64 0, .slice none 0 0, .string ⟨#[]⟩, .int .i64 0, .int .i64 0, .slice none 0 0], some 5, none⟩,
         ⟨.stn 6 (.tmp 5) (.tmp 12), none, none⟩])
        (.reg [⟨.mv (.tmp 3), some 13, none⟩,
         ⟨.ldn 6 (.tmp 5), some 14, none⟩,
         ⟨.call 62 [.tmp 14], some 15, none⟩,
         ⟨.bslice 89 1 1 [.nilIface] [(0, .tmp 15)], some 16, none⟩,
         ⟨.append 89 1 16 (.nilIface) (.tmp 13) (.tmp 16), some 17, none⟩,
         ⟨.mv (.tmp 17), some 3, none⟩])))
      (.reg [⟨.bin .add (.tmp 9) (.const (.int .i64 1)), some 18, none⟩,
       ⟨.mv (.tmp 18), some 9, none⟩])))))))
  (.seq (.seq (.reg [⟨.fa 0 (.tmp 1), some 19, none⟩,
   ⟨.ld1 (.tmp 19), some 20, none⟩])
  (.blk 2 (.seq (.reg [⟨.bin .eql (.tmp 20) (.const (.int .i64 1)), some 22, none⟩,
     ⟨.mv (.tmp 22), some 21, none⟩])
    (.cond (.tmp 21) (.seq (.reg [⟨.mv (.tmp 3), some 23, none⟩,
       ⟨.mki 135 (.tmp 23), some 24, none⟩,
       ⟨.mv (.tmp 24), some 2, none⟩])
      (.ret))
    (.seq (.reg [⟨.bin .eql (.tmp 20) (.const (.int .i64 2)), some 26, none⟩,
       ⟨.mv (.tmp 26), some 25, none⟩])
      (.cond (.tmp 25) (.seq (.reg [⟨.mv (.tmp 3), some 27, none⟩,
         ⟨.mki 136 (.tmp 27), some 28, none⟩,
         ⟨.mv (.tmp 28), some 2, none⟩])
        (.ret))
      (.seq (.reg [⟨.bin .eql (.tmp 20) (.const (.int .i64 3)), some 30, none⟩,
         ⟨.mv (.tmp 30), some 29, none⟩])
        (.cond (.tmp 29) (.seq (.reg [⟨.mv (.tmp 3), some 31, none⟩,
           ⟨.ia 1 (.tmp 31) (.const (.int .i64 0)), some 32, none⟩,
           ⟨.ld1 (.tmp 32), some 33, none⟩,
           ⟨.build [.nilIface] [(0, 1, .tmp 33)], some 34, none⟩,
           ⟨.mki 138 (.tmp 34), some 35, none⟩,
           ⟨.mv (.tmp 35), some 2, none⟩])
          (.ret))
        (.skip)))))))))
  (.seq (.drw [⟨.ldn 6 (.tmp 1), some 36, none⟩,
   ⟨.ldn 6 (.tmp 1), some 37, none⟩,
   ⟨.call 90 [.tmp 37], some 38, none⟩,
   ⟨.build [.int .i64 0, .slice none 0 0, .string ⟨#[]⟩, .int .i64 0, .int .i64 0, .slice none 0 0, .nilFunc] [(0, 6, .tmp 36), (6, 1, .tmp 38)], some 39, none⟩,
   ⟨.mki 141 (.tmp 39), some 40, none⟩,
   ⟨.mv (.tmp 40), some 2, none⟩] [[], [], [1], [0, 2], [3], [4, 2, 0, 1, 2, 3, 4]])
  (.ret)))))
theorem ok62 : FnOk Tryz.prog 62 41 R62 [.t 2] := ⟨_, _, rfl, rfl, rfl, by kernel_rfl, by kernel_rfl⟩

/-- tintype/find.asking -/
def R90 : RC :=
  .seq (.reg [⟨.box 26 6 (.tmp 0), some 1, none⟩,
   ⟨.mv (.const (.nilFunc)), some 2, none⟩])
  (.seq (.seq (.reg [⟨.fa 0 (.tmp 1), some 4, none⟩,
   ⟨.ld1 (.tmp 4), some 5, none⟩])
  (.blk 0 (.seq (.reg [⟨.bin .eql (.tmp 5) (.const (.int .i64 4)), some 7, none⟩,
     ⟨.mv (.tmp 7), some 6, none⟩])
    (.cond (.tmp 6) (.seq (.reg [⟨.mkf (.func 127) [] [.tmp 1], some 8, none⟩,
       ⟨.mv (.tmp 8), some 2, none⟩])
      (.ret))
    (.seq (.reg [⟨.bin .eql (.tmp 5) (.const (.int .i64 5)), some 10, none⟩,
       ⟨.mv (.tmp 10), some 9, none⟩])
      (.cond (.tmp 9) (.seq (.reg [⟨.fa 2 (.tmp 1), some 11, none⟩,
         ⟨.ld1 (.tmp 11), some 12, none⟩,
         ⟨.call 129 [.tmp 12], some 13, none⟩,
         ⟨.alloc 9 [.string ⟨#[]⟩], some 3, none⟩,
         ⟨.st1 (.tmp 3) (.tmp 13), none, none⟩])
        (.seq (.reg [⟨.mkf (.func 130) [] [.tmp 3], some 14, none⟩,
         ⟨.mv (.tmp 14), some 2, none⟩])
        (.ret)))
      (.seq (.reg [⟨.bin .eql (.tmp 5) (.const (.int .i64 6)), some 16, none⟩,
         ⟨.mv (.tmp 16), some 15, none⟩])
        (.cond (.tmp 15) (.seq (.reg [⟨.mkf (.func 132) [] [.tmp 1], some 17, none⟩,
           ⟨.mv (.tmp 17), some 2, none⟩])
          (.ret))
        (.seq (.reg [⟨.bin .eql (.tmp 5) (.const (.int .i64 7)), some 19, none⟩,
           ⟨.mv (.tmp 19), some 18, none⟩])
          (.cond (.tmp 18) (.seq (.reg [⟨.mkf (.func 134) [] [.tmp 1], some 20, none⟩,
             ⟨.mv (.tmp 20), some 2, none⟩])
            (.ret))
          (.seq (.reg [⟨.bin .eql (.tmp 5) (.const (.int .i64 8)), some 22, none⟩,
             ⟨.mv (.tmp 22), some 21, none⟩])
            (.cond (.tmp 21) (.seq (.reg [⟨.mkf (.func 135) [] [.tmp 1], some 23, none⟩,
               ⟨.mv (.tmp 23), some 2, none⟩])
              (.ret))
            (.seq (.reg [⟨.bin .eql (.tmp 5) (.const (.int .i64 9)), some 25, none⟩,
               ⟨.mv (.tmp 25), some 24, none⟩])
              (.cond (.tmp 24) (.seq (.reg [⟨.mv (.func 137), some 2, none⟩])
                (.ret))
              (.seq (.reg [⟨.bin .eql (.tmp 5) (.const (.int .i64 10)), some 27, none⟩,
                 ⟨.mv (.tmp 27), some 26, none⟩])
                (.cond (.tmp 26) (.seq (.reg [⟨.mv (.func 139), some 2, none⟩])
                  (.ret))
                (.seq (.reg [⟨.bin .eql (.tmp 5) (.const (.int .i64 11)), some 29, none⟩,
                   ⟨.mv (.tmp 29), some 28, none⟩])
                  (.cond (.tmp 28) (.seq (.reg [⟨.mv (.func 140), some 2, none⟩])
                    (.ret))
                  (.seq (.reg [⟨.bin .eql (.tmp 5) (.const (.int .i64 12)), some 31, none⟩,
                     ⟨.mv (.tmp 31), some 30, none⟩])
                    (.cond (.tmp 30) (.seq (.reg [⟨.mv (.func 141), some 2, none⟩])
                      (.ret))
                    (.seq (.reg [⟨.bin .eql (.tmp 5) (.const (.int .i64 13)), some 33, none⟩,
                       ⟨.mv (.tmp 33), some 32, none⟩])
                      (.cond (.tmp 32) (.seq (.reg [⟨.call 142 [.func 143], some 34, none⟩,
                         ⟨.mv (.tmp 34), some 2, none⟩])
                        (.ret))
                      (.seq (.reg [⟨.bin .eql (.tmp 5) (.const (.int .i64 14)), some 36, none⟩,
                         ⟨.mv (.tmp 36), some 35, none⟩])
                        (.cond (.tmp 35) (.seq (.reg [⟨.mkf (.func 144) [] [.tmp 1], some 37, none⟩,
                           ⟨.call 142 [.tmp 37], some 38, none⟩,
                           ⟨.mv (.tmp 38), some 2, none⟩])
                          (.ret))
                        (.seq (.reg [⟨.bin .eql (.tmp 5) (.const (.int .i64 15)), some 40, none⟩,
                           ⟨.mv (.tmp 40), some 39, none⟩])
                          (.cond (.tmp 39) (.seq (.reg [⟨.mkf (.func 146) [] [.tmp 1], some 41, none⟩,
                             ⟨.call 142 [.tmp 41], some 42, none⟩,
                             ⟨.mv (.tmp 42), some 2, none⟩])
                            (.ret))
                          (.skip)))))))))))))))))))))))))))
  (.seq (.reg [⟨.mv (.func 148), some 2, none⟩])
  (.ret)))
theorem ok90 : FnOk Tryz.prog 90 43 R90 [.t 2] := ⟨_, _, rfl, rfl, rfl, by kernel_rfl, by kernel_rfl⟩

/-- tintype/find.asking closure 1 -/
def R127 : RC :=
  .seq (.reg [⟨.box 127 13 (.tmp 0), some 2, none⟩,
   ⟨.mv (.const (.bool false)), some 3, none⟩])
  (.seq (.reg [⟨.fa 9 (.tmp 2), some 4, none⟩,
   ⟨.ld1 (.tmp 4), some 5, none⟩,
   ⟨.fa 2 (.tmp 1), some 6, none⟩,
   ⟨.ld1 (.tmp 6), some 7, none⟩,
   ⟨.call 128 [.tmp 5, .tmp 7], some 8, none⟩,
   ⟨.mv (.tmp 8), some 3, none⟩])
  (.ret))
theorem ok127 : FnOk Tryz.prog 127 9 R127 [.t 3] := ⟨_, _, rfl, rfl, rfl, by kernel_rfl, by kernel_rfl⟩

/-- tintype/find.has[string] -/
def R128 : RC :=
  .seq (.reg [⟨.mv (.const (.bool false)), some 4, none⟩])
  (.seq (.seq (.reg [⟨.mv (.tmp 0), some 7, none⟩,
   ⟨.len (.tmp 7), some 8, none⟩,
   ⟨.mv (.const (.int .i64 0)), some 9, none⟩])
  (.blk 0 (.loop (.seq (.reg [⟨.bin .lss (.tmp 9) (.tmp 8), some 10, none⟩])
      (.seq (.cond (.tmp 10) (.skip)
      (.exit 0))
      (.seq (.blk 1 (.seq (.reg [⟨.ia 1 (.tmp 7) (.tmp 9), some 11, none⟩,
         ⟨.ld1 (.tmp 11), some 12, none⟩,
         ⟨.mv (.tmp 12), some 6, none⟩])
        (.seq (.reg [⟨.mv (.tmp 1), some 13, none⟩,
         ⟨.mv (.tmp 6), some 14, none⟩,
         ⟨.bin .eql (.tmp 13) (.tmp 14), some 15, none⟩])
        (.cond (.tmp 15) (.seq (.reg [⟨.mv (.const (.bool true)), some 4, none⟩])
          (.ret))
        (.skip)))))
      (.reg [⟨.bin .add (.tmp 9) (.const (.int .i64 1)), some 16, none⟩,
       ⟨.mv (.tmp 16), some 9, none⟩])))))))
  (.seq (.reg [⟨.mv (.const (.bool false)), some 4, none⟩])
  (.ret)))
theorem ok128 : FnOk Tryz.prog 128 17 R128 [.t 4] := ⟨_, _, rfl, rfl, rfl, by kernel_rfl, by kernel_rfl⟩

/-- tintype/find.asking closure 2 -/
def R130 : RC :=
  .seq (.reg [⟨.box 127 13 (.tmp 0), some 2, none⟩,
   ⟨.mv (.const (.bool false)), some 3, none⟩])
  (.seq (.drw [⟨.fa 10 (.tmp 2), some 4, none⟩,
   ⟨.ld1 (.tmp 4), some 5, none⟩,
   ⟨.call 129 [.tmp 5], some 6, none⟩,
   ⟨.ld1 (.tmp 1), some 7, none⟩,
   ⟨.call 131 [.tmp 6, .tmp 7], some 8, none⟩,
   ⟨.mv (.tmp 8), some 3, none⟩] [[], [0], [1], [], [2, 3, 2], [4, 4, 0, 1, 2, 3, 4]])
  (.ret))
theorem ok130 : FnOk Tryz.prog 130 9 R130 [.t 3] := ⟨_, _, rfl, rfl, rfl, by kernel_rfl, by kernel_rfl⟩

/-- tintype/find.asking closure 3 -/
def R132 : RC :=
  .seq (.reg [⟨.box 127 13 (.tmp 0), some 2, none⟩,
   ⟨.mv (.const (.bool false)), some 3, none⟩])
  (.seq (.reg [⟨.fa 11 (.tmp 2), some 4, none⟩,
   ⟨.ld1 (.tmp 4), some 5, none⟩,
   ⟨.fa 3 (.tmp 1), some 6, none⟩,
   ⟨.ld1 (.tmp 6), some 7, none⟩,
   ⟨.call 133 [.tmp 5, .tmp 7], some 8, none⟩,
   ⟨.mv (.tmp 8), some 3, none⟩])
  (.ret))
theorem ok132 : FnOk Tryz.prog 132 9 R132 [.t 3] := ⟨_, _, rfl, rfl, rfl, by kernel_rfl, by kernel_rfl⟩

/-- tintype/find.has[int] -/
def R133 : RC :=
  .seq (.reg [⟨.mv (.const (.bool false)), some 4, none⟩])
  (.seq (.seq (.reg [⟨.mv (.tmp 0), some 7, none⟩,
   ⟨.len (.tmp 7), some 8, none⟩,
   ⟨.mv (.const (.int .i64 0)), some 9, none⟩])
  (.blk 0 (.loop (.seq (.reg [⟨.bin .lss (.tmp 9) (.tmp 8), some 10, none⟩])
      (.seq (.cond (.tmp 10) (.skip)
      (.exit 0))
      (.seq (.blk 1 (.seq (.reg [⟨.ia 1 (.tmp 7) (.tmp 9), some 11, none⟩,
         ⟨.ld1 (.tmp 11), some 12, none⟩,
         ⟨.mv (.tmp 12), some 6, none⟩])
        (.seq (.reg [⟨.mv (.tmp 1), some 13, none⟩,
         ⟨.mv (.tmp 6), some 14, none⟩,
         ⟨.bin .eql (.tmp 13) (.tmp 14), some 15, none⟩])
        (.cond (.tmp 15) (.seq (.reg [⟨.mv (.const (.bool true)), some 4, none⟩])
          (.ret))
        (.skip)))))
      (.reg [⟨.bin .add (.tmp 9) (.const (.int .i64 1)), some 16, none⟩,
       ⟨.mv (.tmp 16), some 9, none⟩])))))))
  (.seq (.reg [⟨.mv (.const (.bool false)), some 4, none⟩])
  (.ret)))
theorem ok133 : FnOk Tryz.prog 133 17 R133 [.t 4] := ⟨_, _, rfl, rfl, rfl, by kernel_rfl, by kernel_rfl⟩

/-- tintype/find.asking closure 4 -/
def R134 : RC :=
  .seq (.reg [⟨.box 127 13 (.tmp 0), some 2, none⟩,
   ⟨.mv (.const (.bool false)), some 3, none⟩])
  (.seq (.reg [⟨.fa 8 (.tmp 2), some 4, none⟩,
   ⟨.ld1 (.tmp 4), some 5, none⟩,
   ⟨.fa 3 (.tmp 1), some 6, none⟩,
   ⟨.ld1 (.tmp 6), some 7, none⟩,
   ⟨.fa 4 (.tmp 1), some 8, none⟩,
   ⟨.ld1 (.tmp 8), some 9, none⟩,
   ⟨.call 57 [.tmp 5, .tmp 7, .tmp 9], some 10, none⟩,
   ⟨.un .not (.tmp 10), some 11, none⟩,
   ⟨.mv (.tmp 11), some 3, none⟩])
  (.ret))
theorem ok134 : FnOk Tryz.prog 134 12 R134 [.t 3] := ⟨_, _, rfl, rfl, rfl, by kernel_rfl, by kernel_rfl⟩

/-- tintype/find.asking closure 5 -/
def R135 : RC :=
  .seq (.reg [⟨.box 127 13 (.tmp 0), some 2, none⟩,
   ⟨.mv (.const (.bool false)), some 3, none⟩])
  (.seq (.drw [⟨.fa 2 (.tmp 2), some 4, none⟩,
   ⟨.ld1 (.tmp 4), some 5, none⟩,
   ⟨.bin .geq (.tmp 5) (.const (.int .i64 0)), some 6, none⟩,
   ⟨.mv (.tmp 6), some 7, none⟩,
   ⟨.ldn 13 (.tmp 2), some 8, some (7, true)⟩,
   ⟨.call 136 [.tmp 8], some 9, some (7, true)⟩,
   ⟨.fa 3 (.tmp 1), some 10, some (7, true)⟩,
   ⟨.ld1 (.tmp 10), some 11, some (7, true)⟩,
   ⟨.fa 4 (.tmp 1), some 12, some (7, true)⟩,
   ⟨.ld1 (.tmp 12), some 13, some (7, true)⟩,
   ⟨.call 57 [.tmp 9, .tmp 11, .tmp 13], some 14, some (7, true)⟩,
   ⟨.un .not (.tmp 14), some 15, some (7, true)⟩,
   ⟨.pick (.tmp 7) (.tmp 15) (.const (.bool false)), some 16, none⟩,
   ⟨.mv (.tmp 16), some 3, none⟩] [[], [0], [1], [2], [3], [4, 3, 3], [3], [6, 3], [3], [8, 3], [5, 7, 9, 5, 3], [10, 3], [3, 11], [12, 10, 0, 1, 2, 3, 4, 5, 6, 7, 8, 9, 10, 11, 12]])
  (.ret))
theorem ok135 : FnOk Tryz.prog 135 17 R135 [.t 3] := ⟨_, _, rfl, rfl, rfl, by kernel_rfl, by kernel_rfl⟩

/-- tintype/find.asking closure 6 -/
def R137 : RC :=
  .seq (.reg [⟨.box 127 13 (.tmp 0), some 1, none⟩,
   ⟨.mv (.const (.bool false)), some 2, none⟩])
  (.seq (.reg [⟨.ldn 13 (.tmp 1), some 3, none⟩,
   ⟨.call 138 [.tmp 3], some 4, none⟩,
   ⟨.bin .gtr (.tmp 4) (.const (.int .i64 0)), some 5, none⟩,
   ⟨.mv (.tmp 5), some 2, none⟩])
  (.ret))
theorem ok137 : FnOk Tryz.prog 137 6 R137 [.t 2] := ⟨_, _, rfl, rfl, rfl, by kernel_rfl, by kernel_rfl⟩

/-- tintype/find.higher -/
def R138 : RC :=
  .seq (.reg [⟨.box 127 13 (.tmp 0), some 1, none⟩,
   ⟨.mv (.const (.int .i64 0)), some 2, none⟩])
  (.seq (.seq (.reg [⟨.fa 7 (.tmp 1), some 3, none⟩,
   ⟨.ld1 (.tmp 3), some 4, none⟩,
   ⟨.bin .geq (.tmp 4) (.const (.int .i64 5)), some 5, none⟩])
  (.cond (.tmp 5) (.seq (.reg [⟨.fa 5 (.tmp 1), some 6, none⟩,
     ⟨.ld1 (.tmp 6), some 7, none⟩,
     ⟨.fa 6 (.tmp 1), some 8, none⟩,
     ⟨.ld1 (.tmp 8), some 9, none⟩,
     ⟨.bin .sub (.tmp 7) (.tmp 9), some 10, none⟩,
     ⟨.mv (.tmp 10), some 2, none⟩])
    (.ret))
  (.skip)))
  (.seq (.reg [⟨.fa 6 (.tmp 1), some 11, none⟩,
   ⟨.ld1 (.tmp 11), some 12, none⟩,
   ⟨.fa 5 (.tmp 1), some 13, none⟩,
   ⟨.ld1 (.tmp 13), some 14, none⟩,
   ⟨.bin .sub (.tmp 12) (.tmp 14), some 15, none⟩,
   ⟨.mv (.tmp 15), some 2, none⟩])
  (.ret)))
theorem ok138 : FnOk Tryz.prog 138 16 R138 [.t 2] := ⟨_, _, rfl, rfl, rfl, by kernel_rfl, by kernel_rfl⟩

/-- tintype/find.asking closure 7 -/
def R139 : RC :=
  .seq (.reg [⟨.box 127 13 (.tmp 0), some 1, none⟩,
   ⟨.mv (.const (.bool false)), some 2, none⟩])
  (.seq (.reg [⟨.ldn 13 (.tmp 1), some 3, none⟩,
   ⟨.call 138 [.tmp 3], some 4, none⟩,
   ⟨.bin .lss (.tmp 4) (.const (.int .i64 0)), some 5, none⟩,
   ⟨.mv (.tmp 5), some 2, none⟩])
  (.ret))
theorem ok139 : FnOk Tryz.prog 139 6 R139 [.t 2] := ⟨_, _, rfl, rfl, rfl, by kernel_rfl, by kernel_rfl⟩

/-- tintype/find.asking closure 8 -/
def R140 : RC :=
  .seq (.reg [⟨.box 127 13 (.tmp 0), some 1, none⟩,
   ⟨.mv (.const (.bool false)), some 2, none⟩])
  (.seq (.reg [⟨.ldn 13 (.tmp 1), some 3, none⟩,
   ⟨.call 138 [.tmp 3], some 4, none⟩,
   ⟨.bin .eql (.tmp 4) (.const (.int .i64 0)), some 5, none⟩,
   ⟨.mv (.tmp 5), some 2, none⟩])
  (.ret))
theorem ok140 : FnOk Tryz.prog 140 6 R140 [.t 2] := ⟨_, _, rfl, rfl, rfl, by kernel_rfl, by kernel_rfl⟩

/-- tintype/find.asking closure 9 -/
def R141 : RC :=
  .seq (.reg [⟨.box 127 13 (.tmp 0), some 1, none⟩,
   ⟨.mv (.const (.bool false)), some 2, none⟩])
  (.seq (.reg [⟨.fa 7 (.tmp 1), some 3, none⟩,
   ⟨.ld1 (.tmp 3), some 4, none⟩,
   ⟨.bin .neq (.tmp 4) (.const (.int .i64 1)), some 5, none⟩,
   ⟨.mv (.tmp 5), some 2, none⟩])
  (.ret))
theorem ok141 : FnOk Tryz.prog 141 6 R141 [.t 2] := ⟨_, _, rfl, rfl, rfl, by kernel_rfl, by kernel_rfl⟩

/-- tintype/find.placed -/
def R142 : RC :=
  .seq (.reg [⟨.box 191 1 (.tmp 0), some 1, none⟩,
   ⟨.mv (.const (.nilFunc)), some 2, none⟩])
  (.seq (.reg [⟨.mkf (.func 178) [] [.tmp 1], some 3, none⟩,
   ⟨.mv (.tmp 3), some 2, none⟩])
  (.ret))
theorem ok142 : FnOk Tryz.prog 142 4 R142 [.t 2] := ⟨_, _, rfl, rfl, rfl, by kernel_rfl, by kernel_rfl⟩

/-- tintype/find.placed closure 1 -/
def R178 : RC :=
  .seq (.reg [⟨.box 127 13 (.tmp 0), some 2, none⟩,
   ⟨.mv (.const (.bool false)), some 3, none⟩])
  (.seq (.drw [⟨.fa 4 (.tmp 2), some 4, none⟩,
   ⟨.ld1 (.tmp 4), some 5, none⟩,
   ⟨.len (.tmp 5), some 6, none⟩,
   ⟨.bin .gtr (.tmp 6) (.const (.int .i64 0)), some 7, none⟩,
   ⟨.mv (.tmp 7), some 8, none⟩,
   ⟨.ld1 (.tmp 1), some 9, some (8, true)⟩,
   ⟨.fa 4 (.tmp 2), some 10, some (8, true)⟩,
   ⟨.ld1 (.tmp 10), some 11, some (8, true)⟩,
   ⟨.ia 2 (.tmp 11) (.const (.int .i64 0)), some 12, some (8, true)⟩,
   ⟨.ldn 2 (.tmp 12), some 13, some (8, true)⟩,
   ⟨.callv (.tmp 9) [.tmp 13], some 14, some (8, true)⟩,
   ⟨.pick (.tmp 8) (.tmp 14) (.const (.bool false)), some 15, none⟩,
   ⟨.mv (.tmp 15), some 3, none⟩] [[], [0], [1], [2], [3], [4], [4], [6, 4], [7, 4], [8, 4], [5, 9, 4, 4], [4, 10], [11, 10, 0, 1, 2, 3, 4, 5, 6, 7, 8, 9, 10, 11]])
  (.ret))
theorem ok178 : FnOk Tryz.prog 178 16 R178 [.t 3] := ⟨_, _, rfl, rfl, rfl, by kernel_rfl, by kernel_rfl⟩

/-- tintype/find.asking closure 10 -/
def R143 : RC :=
  .seq (.reg [⟨.box 69 2 (.tmp 0), some 1, none⟩,
   ⟨.mv (.const (.bool false)), some 2, none⟩])
  (.seq (.reg [⟨.mv (.const (.bool true)), some 2, none⟩])
  (.ret))
theorem ok143 : FnOk Tryz.prog 143 3 R143 [.t 2] := ⟨_, _, rfl, rfl, rfl, by kernel_rfl, by kernel_rfl⟩

/-- tintype/find.asking closure 11 -/
def R144 : RC :=
  .seq (.reg [⟨.box 69 2 (.tmp 0), some 2, none⟩,
   ⟨.mv (.const (.bool false)), some 3, none⟩])
  (.seq (.drw [⟨.ldn 2 (.tmp 2), some 7, none⟩,
   ⟨.fa 5 (.tmp 1), some 8, none⟩,
   ⟨.ld1 (.tmp 8), some 9, none⟩,
   ⟨.ia 2 (.tmp 9) (.const (.int .i64 0)), some 10, none⟩,
   ⟨.ldn 2 (.tmp 10), some 11, none⟩,
   ⟨.call 145 [.tmp 7, .tmp 11], some 12, none⟩,
   ⟨.mv (.tmp 12), some 6, none⟩,
   ⟨.ext 0 (.tmp 6), some 13, none⟩,
   ⟨.ext 1 (.tmp 6), some 14, none⟩,
   ⟨.mv (.tmp 13), some 4, none⟩,
   ⟨.mv (.tmp 14), some 5, none⟩] [[], [], [1], [2], [3], [0, 4], [5], [6], [6], [7, 5, 0, 1, 2, 3, 4, 5, 6, 7], [8, 9, 0, 1, 2, 3, 4, 5, 6, 7, 8, 9]])
  (.seq (.reg [⟨.mv (.tmp 4), some 15, none⟩,
   ⟨.fa 3 (.tmp 1), some 16, none⟩,
   ⟨.ld1 (.tmp 16), some 17, none⟩,
   ⟨.bin .leq (.tmp 15) (.tmp 17), some 18, none⟩,
   ⟨.mv (.tmp 18), some 3, none⟩])
  (.ret)))
theorem ok144 : FnOk Tryz.prog 144 19 R144 [.t 3] := ⟨_, _, rfl, rfl, rfl, by kernel_rfl, by kernel_rfl⟩

/-- tintype/find.asking closure 12 -/
def R146 : RC :=
  .seq (.reg [⟨.box 69 2 (.tmp 0), some 2, none⟩,
   ⟨.mv (.const (.bool false)), some 3, none⟩])
  (.seq (.reg [⟨.ldn 2 (.tmp 2), some 4, none⟩,
   ⟨.fa 5 (.tmp 1), some 5, none⟩,
   ⟨.ld1 (.tmp 5), some 6, none⟩,
   ⟨.call 147 [.tmp 4, .tmp 6], some 7, none⟩,
   ⟨.mv (.tmp 7), some 3, none⟩])
  (.ret))
theorem ok146 : FnOk Tryz.prog 146 8 R146 [.t 3] := ⟨_, _, rfl, rfl, rfl, by kernel_rfl, by kernel_rfl⟩

/-- tintype/find.inBox -/
def R147 : RC :=
  .seq (.reg [⟨.box 69 2 (.tmp 0), some 2, none⟩,
   ⟨.mv (.const (.bool false)), some 4, none⟩])
  (.seq (.seq (.drw [⟨.fa 0 (.tmp 2), some 7, none⟩,
   ⟨.ld1 (.tmp 7), some 8, none⟩,
   ⟨.mv (.tmp 1), some 9, none⟩,
   ⟨.ia 2 (.tmp 9) (.const (.int .i64 0)), some 10, none⟩,
   ⟨.fa 0 (.tmp 10), some 11, none⟩,
   ⟨.ld1 (.tmp 11), some 12, none⟩,
   ⟨.mv (.tmp 1), some 13, none⟩,
   ⟨.ia 2 (.tmp 13) (.const (.int .i64 1)), some 14, none⟩,
   ⟨.fa 0 (.tmp 14), some 15, none⟩,
   ⟨.ld1 (.tmp 15), some 16, none⟩,
   ⟨.call 57 [.tmp 8, .tmp 12, .tmp 16], some 17, none⟩] [[], [0], [], [2], [3], [4], [], [6], [7], [8], [1, 5, 9]])
  (.cond (.tmp 17) (.seq (.reg [⟨.mv (.const (.bool false)), some 4, none⟩])
    (.ret))
  (.skip)))
  (.seq (.drw [⟨.mv (.tmp 1), some 18, none⟩,
   ⟨.ia 2 (.tmp 18) (.const (.int .i64 0)), some 19, none⟩,
   ⟨.fa 1 (.tmp 19), some 20, none⟩,
   ⟨.ld1 (.tmp 20), some 21, none⟩,
   ⟨.mv (.tmp 1), some 22, none⟩,
   ⟨.ia 2 (.tmp 22) (.const (.int .i64 1)), some 23, none⟩,
   ⟨.fa 1 (.tmp 23), some 24, none⟩,
   ⟨.ld1 (.tmp 24), some 25, none⟩,
   ⟨.mv (.tmp 21), some 5, none⟩,
   ⟨.mv (.tmp 25), some 6, none⟩] [[], [0], [1], [2], [], [4], [5], [6], [3, 0, 1, 2, 3], [7, 8, 0, 1, 2, 3, 4, 5, 6, 7, 8]])
  (.seq (.reg [⟨.mv (.tmp 5), some 26, none⟩,
   ⟨.mv (.tmp 6), some 27, none⟩,
   ⟨.bin .leq (.tmp 26) (.tmp 27), some 28, none⟩])
  (.cond (.tmp 28) (.seq (.reg [⟨.fa 1 (.tmp 2), some 29, none⟩,
     ⟨.ld1 (.tmp 29), some 30, none⟩,
     ⟨.mv (.tmp 5), some 31, none⟩,
     ⟨.mv (.tmp 6), some 32, none⟩,
     ⟨.call 57 [.tmp 30, .tmp 31, .tmp 32], some 33, none⟩,
     ⟨.un .not (.tmp 33), some 34, none⟩,
     ⟨.mv (.tmp 34), some 4, none⟩])
    (.ret))
  (.seq (.reg [⟨.fa 1 (.tmp 2), some 35, none⟩,
     ⟨.ld1 (.tmp 35), some 36, none⟩,
     ⟨.mv (.tmp 5), some 37, none⟩,
     ⟨.bin .geq (.tmp 36) (.tmp 37), some 38, none⟩,
     ⟨.mv (.tmp 38), some 39, none⟩,
     ⟨.fa 1 (.tmp 2), some 40, some (39, false)⟩,
     ⟨.ld1 (.tmp 40), some 41, some (39, false)⟩,
     ⟨.mv (.tmp 6), some 42, some (39, false)⟩,
     ⟨.bin .leq (.tmp 41) (.tmp 42), some 43, some (39, false)⟩,
     ⟨.pick (.tmp 39) (.const (.bool true)) (.tmp 43), some 44, none⟩,
     ⟨.mv (.tmp 44), some 4, none⟩])
    (.ret))))))
theorem ok147 : FnOk Tryz.prog 147 45 R147 [.t 4] := ⟨_, _, rfl, rfl, rfl, by kernel_rfl, by kernel_rfl⟩

/-- tintype/find.asking closure 13 -/
def R148 : RC :=
  .seq (.reg [⟨.box 127 13 (.tmp 0), some 1, none⟩,
   ⟨.mv (.const (.bool false)), some 2, none⟩])
  (.seq (.reg [⟨.fa 12 (.tmp 1), some 3, none⟩,
   ⟨.ld1 (.tmp 3), some 4, none⟩,
   ⟨.mv (.tmp 4), some 2, none⟩])
  (.ret))
theorem ok148 : FnOk Tryz.prog 148 5 R148 [.t 2] := ⟨_, _, rfl, rfl, rfl, by kernel_rfl, by kernel_rfl⟩

/-- (tintype/find.all).holds -/
def R334 : RC :=
  .seq (.reg [⟨.box 127 13 (.tmp 1), some 3, none⟩,
   ⟨.mv (.const (.bool false)), some 4, none⟩])
  (.seq (.seq (.reg [⟨.mv (.tmp 0), some 7, none⟩,
   ⟨.len (.tmp 7), some 8, none⟩,
   ⟨.mv (.const (.int .i64 0)), some 9, none⟩])
  (.blk 0 (.loop (.seq (.reg [⟨.bin .lss (.tmp 9) (.tmp 8), some 10, none⟩])
      (.seq (.cond (.tmp 10) (.skip)
      (.exit 0))
      (.seq (.blk 1 (.seq (.reg [⟨.ia 1 (.tmp 7) (.tmp 9), some 11, none⟩,
         ⟨.ld1 (.tmp 11), some 12, none⟩,
         ⟨.mv (.tmp 12), some 6, none⟩])
        (.seq (.reg [⟨.mv (.tmp 6), some 13, none⟩,
         ⟨.ldn 13 (.tmp 3), some 14, none⟩,
         ⟨.inv (.tmp 13) "tintype/find.holds" [.tmp 14], some 15, none⟩,
         ⟨.un .not (.tmp 15), some 16, none⟩])
        (.cond (.tmp 16) (.seq (.reg [⟨.mv (.const (.bool false)), some 4, none⟩])
          (.ret))
        (.skip)))))
      (.reg [⟨.bin .add (.tmp 9) (.const (.int .i64 1)), some 17, none⟩,
       ⟨.mv (.tmp 17), some 9, none⟩])))))))
  (.seq (.reg [⟨.mv (.const (.bool true)), some 4, none⟩])
  (.ret)))
theorem ok334 : FnOk Tryz.prog 334 18 R334 [.t 4] := ⟨_, _, rfl, rfl, rfl, by kernel_rfl, by kernel_rfl⟩

/-- (tintype/find.some).holds -/
def R335 : RC :=
  .seq (.reg [⟨.box 127 13 (.tmp 1), some 3, none⟩,
   ⟨.mv (.const (.bool false)), some 4, none⟩])
  (.seq (.seq (.reg [⟨.mv (.tmp 0), some 7, none⟩,
   ⟨.len (.tmp 7), some 8, none⟩,
   ⟨.mv (.const (.int .i64 0)), some 9, none⟩])
  (.blk 0 (.loop (.seq (.reg [⟨.bin .lss (.tmp 9) (.tmp 8), some 10, none⟩])
      (.seq (.cond (.tmp 10) (.skip)
      (.exit 0))
      (.seq (.blk 1 (.seq (.reg [⟨.ia 1 (.tmp 7) (.tmp 9), some 11, none⟩,
         ⟨.ld1 (.tmp 11), some 12, none⟩,
         ⟨.mv (.tmp 12), some 6, none⟩])
        (.seq (.reg [⟨.mv (.tmp 6), some 13, none⟩,
         ⟨.ldn 13 (.tmp 3), some 14, none⟩,
         ⟨.inv (.tmp 13) "tintype/find.holds" [.tmp 14], some 15, none⟩])
        (.cond (.tmp 15) (.seq (.reg [⟨.mv (.const (.bool true)), some 4, none⟩])
          (.ret))
        (.skip)))))
      (.reg [⟨.bin .add (.tmp 9) (.const (.int .i64 1)), some 16, none⟩,
       ⟨.mv (.tmp 16), some 9, none⟩])))))))
  (.seq (.reg [⟨.mv (.const (.bool false)), some 4, none⟩])
  (.ret)))
theorem ok335 : FnOk Tryz.prog 335 17 R335 [.t 4] := ⟨_, _, rfl, rfl, rfl, by kernel_rfl, by kernel_rfl⟩

/-- (tintype/find.no).holds -/
def R336 : RC :=
  .seq (.reg [⟨.box 138 1 (.tmp 0), some 2, none⟩,
   ⟨.box 127 13 (.tmp 1), some 3, none⟩,
   ⟨.mv (.const (.bool false)), some 4, none⟩])
  (.seq (.reg [⟨.fa 0 (.tmp 2), some 5, none⟩,
   ⟨.ld1 (.tmp 5), some 6, none⟩,
   ⟨.ldn 13 (.tmp 3), some 7, none⟩,
   ⟨.inv (.tmp 6) "tintype/find.holds" [.tmp 7], some 8, none⟩,
   ⟨.un .not (.tmp 8), some 9, none⟩,
   ⟨.mv (.tmp 9), some 4, none⟩])
  (.ret))
theorem ok336 : FnOk Tryz.prog 336 10 R336 [.t 4] := ⟨_, _, rfl, rfl, rfl, by kernel_rfl, by kernel_rfl⟩

/-- (tintype/find.leaf).holds -/
def R337 : RC :=
  .seq (.reg [⟨.box 141 7 (.tmp 0), some 2, none⟩,
   ⟨.box 127 13 (.tmp 1), some 3, none⟩,
   ⟨.mv (.const (.bool false)), some 4, none⟩])
  (.seq (.reg [⟨.fa 6 (.tmp 2), some 5, none⟩,
   ⟨.ld1 (.tmp 5), some 6, none⟩,
   ⟨.ldn 13 (.tmp 3), some 7, none⟩,
   ⟨.callv (.tmp 6) [.tmp 7], some 8, none⟩,
   ⟨.mv (.tmp 8), some 4, none⟩])
  (.ret))
theorem ok337 : FnOk Tryz.prog 337 9 R337 [.t 4] := ⟨_, _, rfl, rfl, rfl, by kernel_rfl, by kernel_rfl⟩

/-- tintype/find.lower -/
def R129 : RC :=
  .seq (.reg [⟨.mv (.const (.string ⟨#[]⟩)), some 2, none⟩])
  (.seq (.reg [⟨.mv (.tmp 0), some 6, none⟩,
   ⟨.raw (Op.convert 9 165 (Operand.tmp 6)) 165, some 7, none⟩,
   ⟨.mv (.tmp 7), some 3, none⟩])
  (.seq (.seq (.reg [⟨.mv (.tmp 3), some 8, none⟩,
   ⟨.len (.tmp 8), some 9, none⟩,
   ⟨.mv (.const (.int .i64 0)), some 10, none⟩])
  (.blk 0 (.loop (.seq (.reg [⟨.bin .lss (.tmp 10) (.tmp 9), some 11, none⟩])
      (.seq (.cond (.tmp 11) (.skip)
      (.exit 0))
      (.seq (.blk 1 (.seq (.reg [⟨.mv (.tmp 10), some 12, none⟩,
         ⟨.ia 1 (.tmp 8) (.tmp 10), some 13, none⟩,
         ⟨.ld1 (.tmp 13), some 14, none⟩,
         ⟨.mv (.tmp 12), some 4, none⟩,
         ⟨.mv (.tmp 14), some 5, none⟩])
        (.seq (.reg [⟨.mv (.tmp 5), some 15, none⟩,
         ⟨.bin .geq (.tmp 15) (.const (.int .u8 65)), some 16, none⟩,
         ⟨.mv (.tmp 16), some 17, none⟩,
         ⟨.mv (.tmp 5), some 18, some (17, true)⟩,
         ⟨.bin .leq (.tmp 18) (.const (.int .u8 90)), some 19, some (17, true)⟩,
         ⟨.pick (.tmp 17) (.tmp 19) (.const (.bool false)), some 20, none⟩])
        (.cond (.tmp 20) (.reg [⟨.mv (.tmp 3), some 21, none⟩,
           ⟨.mv (.tmp 4), some 22, none⟩,
           ⟨.mv (.tmp 5), some 23, none⟩,
           ⟨.bin .add (.tmp 23) (.const (.int .u8 97)), some 24, none⟩,
           ⟨.bin .sub (.tmp 24) (.const (.int .u8 65)), some 25, none⟩,
           ⟨.ia 1 (.tmp 21) (.tmp 22), some 26, none⟩,
           ⟨.st1 (.tmp 26) (.tmp 25), none, none⟩])
        (.skip)))))
      (.reg [⟨.bin .add (.tmp 10) (.const (.int .i64 1)), some 27, none⟩,
       ⟨.mv (.tmp 27), some 10, none⟩])))))))
  (.seq (.reg [⟨.mv (.tmp 3), some 28, none⟩,
   ⟨.raw (Op.convert 165 9 (Operand.tmp 28)) 9, some 29, none⟩,
   ⟨.mv (.tmp 29), some 2, none⟩])
  (.ret))))
theorem ok129 : FnOk Tryz.prog 129 30 R129 [.t 2] := ⟨_, _, rfl, rfl, rfl, by kernel_rfl, by kernel_rfl⟩

/-- strings.Contains -/
def R131 : RC :=
  .seq (.reg [⟨.mv (.const (.bool false)), some 4, none⟩])
  (.seq (.reg [⟨.mv (.tmp 0), some 5, none⟩,
   ⟨.mv (.tmp 1), some 6, none⟩,
   ⟨.call 177 [.tmp 5, .tmp 6], some 7, none⟩,
   ⟨.bin .geq (.tmp 7) (.const (.int .i64 0)), some 8, none⟩,
   ⟨.mv (.tmp 8), some 4, none⟩])
  (.ret))
theorem ok131 : FnOk Tryz.prog 131 9 R131 [.t 4] := ⟨_, _, rfl, rfl, rfl, by kernel_rfl, by kernel_rfl⟩

/-- strings.Index -/
def R177 : RC :=
  .seq (.reg [⟨.mv (.const (.int .i64 0)), some 4, none⟩])
  (.seq (.reg [⟨.mv (.tmp 0), some 5, none⟩,
   ⟨.mv (.tmp 1), some 6, none⟩,
   ⟨.call 213 [.tmp 5, .tmp 6], some 7, none⟩,
   ⟨.mv (.tmp 7), some 4, none⟩])
  (.ret))
theorem ok177 : FnOk Tryz.prog 177 8 R177 [.t 4] := ⟨_, _, rfl, rfl, rfl, by kernel_rfl, by kernel_rfl⟩

/-- internal/stringslite.Index -/
def R213 : RC :=
  .seq (.reg [⟨.mv (.const (.int .i64 0)), some 4, none⟩])
  (.seq (.reg [⟨.mv (.tmp 1), some 14, none⟩,
   ⟨.lens (.tmp 14), some 15, none⟩,
   ⟨.mv (.tmp 15), some 5, none⟩])
  (.seq (.blk 0 (.seq (.reg [⟨.mv (.tmp 5), some 17, none⟩,
     ⟨.bin .eql (.tmp 17) (.const (.int .i64 0)), some 18, none⟩,
     ⟨.mv (.tmp 18), some 19, none⟩,
     ⟨.mv (.tmp 1), some 20, some (19, false)⟩,
     ⟨.mv (.tmp 0), some 21, some (19, false)⟩,
     ⟨.bin .eql (.tmp 20) (.tmp 21), some 22, some (19, false)⟩,
     ⟨.pick (.tmp 19) (.const (.bool true)) (.tmp 22), some 23, none⟩,
     ⟨.mv (.tmp 23), some 16, none⟩])
    (.cond (.tmp 16) (.seq (.reg [⟨.mv (.const (.int .i64 0)), some 4, none⟩])
      (.ret))
    (.seq (.reg [⟨.mv (.tmp 5), some 25, none⟩,
       ⟨.bin .eql (.tmp 25) (.const (.int .i64 1)), some 26, none⟩,
       ⟨.mv (.tmp 26), some 24, none⟩])
      (.cond (.tmp 24) (.seq (.reg [⟨.mv (.tmp 0), some 27, none⟩,
         ⟨.mv (.tmp 1), some 28, none⟩,
         ⟨.ixs (.tmp 28) (.const (.int .i64 0)), some 29, none⟩,
         ⟨.call 245 [.tmp 27, .tmp 29], some 30, none⟩,
         ⟨.mv (.tmp 30), some 4, none⟩])
        (.ret))
      (.seq (.reg [⟨.mv (.tmp 5), some 32, none⟩,
         ⟨.mv (.tmp 0), some 33, none⟩,
         ⟨.lens (.tmp 33), some 34, none⟩,
         ⟨.bin .geq (.tmp 32) (.tmp 34), some 35, none⟩,
         ⟨.mv (.tmp 35), some 31, none⟩])
        (.cond (.tmp 31) (.seq (.reg [⟨.mv (.const (.int .i64 (-1))), some 4, none⟩])
          (.ret))
        (.seq (.reg [⟨.mv (.tmp 5), some 37, none⟩,
           ⟨.ld1 (.global 0), some 38, none⟩,
           ⟨.bin .leq (.tmp 37) (.tmp 38), some 39, none⟩,
           ⟨.mv (.tmp 39), some 40, none⟩,
           ⟨.mv (.tmp 0), some 41, some (40, true)⟩,
           ⟨.lens (.tmp 41), some 42, some (40, true)⟩,
           ⟨.bin .leq (.tmp 42) (.const (.int .i64 64)), some 43, some (40, true)⟩,
           ⟨.pick (.tmp 40) (.tmp 43) (.const (.bool false)), some 44, none⟩,
           ⟨.mv (.tmp 44), some 36, none⟩])
          (.cond (.tmp 36) (.seq (.reg [⟨.mv (.tmp 0), some 45, none⟩,
             ⟨.mv (.tmp 1), some 46, none⟩,
             ⟨.raw (Op.call { callee := Callee.value (Operand.func 246), args := #[Operand.tmp 45, Operand.tmp 46], argTypes := #[9, 9] }) 3, some 47, none⟩,
             ⟨.mv (.tmp 47), some 4, none⟩])
            (.ret))
          (.skip))))))))))
  (.seq (.reg [⟨.mv (.tmp 1), some 48, none⟩,
   ⟨.ixs (.tmp 48) (.const (.int .i64 0)), some 49, none⟩,
   ⟨.mv (.tmp 49), some 6, none⟩])
  (.seq (.reg [⟨.mv (.tmp 1), some 50, none⟩,
   ⟨.ixs (.tmp 50) (.const (.int .i64 1)), some 51, none⟩,
   ⟨.mv (.tmp 51), some 7, none⟩])
  (.seq (.reg [⟨.mv (.const (.int .i64 0)), some 8, none⟩])
  (.seq (.reg [⟨.mv (.tmp 0), some 52, none⟩,
   ⟨.lens (.tmp 52), some 53, none⟩,
   ⟨.mv (.tmp 5), some 54, none⟩,
   ⟨.bin .sub (.tmp 53) (.tmp 54), some 55, none⟩,
   ⟨.bin .add (.tmp 55) (.const (.int .i64 1)), some 56, none⟩,
   ⟨.mv (.tmp 56), some 9, none⟩])
  (.seq (.reg [⟨.mv (.const (.int .i64 0)), some 10, none⟩])
  (.seq (.blk 1 (.loop (.seq (.seq (.reg [⟨.mv (.tmp 8), some 57, none⟩,
       ⟨.mv (.tmp 9), some 58, none⟩,
       ⟨.bin .lss (.tmp 57) (.tmp 58), some 59, none⟩])
      (.cond (.tmp 59) (.skip)
      (.exit 1)))
      (.blk 2 (.seq (.seq (.reg [⟨.mv (.tmp 0), some 60, none⟩,
         ⟨.mv (.tmp 8), some 61, none⟩,
         ⟨.ixs (.tmp 60) (.tmp 61), some 62, none⟩,
         ⟨.mv (.tmp 6), some 63, none⟩,
         ⟨.bin .neq (.tmp 62) (.tmp 63), some 64, none⟩])
        (.cond (.tmp 64) (.seq (.reg [⟨.mv (.tmp 0), some 65, none⟩,
           ⟨.mv (.tmp 8), some 66, none⟩,
           ⟨.bin .add (.tmp 66) (.const (.int .i64 1)), some 67, none⟩,
           ⟨.mv (.tmp 9), some 68, none⟩,
           ⟨.sls (.tmp 65) (some (.tmp 67)) (some (.tmp 68)), some 69, none⟩,
           ⟨.mv (.tmp 6), some 70, none⟩,
           ⟨.call 245 [.tmp 69, .tmp 70], some 71, none⟩,
           ⟨.mv (.tmp 71), some 11, none⟩])
          (.seq (.seq (.reg [⟨.mv (.tmp 11), some 72, none⟩,
           ⟨.bin .lss (.tmp 72) (.const (.int .i64 0)), some 73, none⟩])
          (.cond (.tmp 73) (.seq (.reg [⟨.mv (.const (.int .i64 (-1))), some 4, none⟩])
            (.ret))
          (.skip)))
          (.reg [⟨.mv (.tmp 8), some 74, none⟩,
           ⟨.mv (.tmp 11), some 75, none⟩,
           ⟨.bin .add (.tmp 75) (.const (.int .i64 1)), some 76, none⟩,
           ⟨.bin .add (.tmp 74) (.tmp 76), some 77, none⟩,
           ⟨.mv (.tmp 77), some 8, none⟩])))
        (.skip)))
        (.seq (.seq (.reg [⟨.mv (.tmp 0), some 78, none⟩,
         ⟨.mv (.tmp 8), some 79, none⟩,
         ⟨.bin .add (.tmp 79) (.const (.int .i64 1)), some 80, none⟩,
         ⟨.ixs (.tmp 78) (.tmp 80), some 81, none⟩,
         ⟨.mv (.tmp 7), some 82, none⟩,
         ⟨.bin .eql (.tmp 81) (.tmp 82), some 83, none⟩,
         ⟨.mv (.tmp 83), some 84, none⟩,
         ⟨.mv (.tmp 0), some 85, some (84, true)⟩,
         ⟨.mv (.tmp 8), some 86, some (84, true)⟩,
         ⟨.mv (.tmp 8), some 87, some (84, true)⟩,
         ⟨.mv (.tmp 5), some 88, some (84, true)⟩,
         ⟨.bin .add (.tmp 87) (.tmp 88), some 89, some (84, true)⟩,
         ⟨.sls (.tmp 85) (some (.tmp 86)) (some (.tmp 89)), some 90, some (84, true)⟩,
         ⟨.mv (.tmp 1), some 91, some (84, true)⟩,
         ⟨.bin .eql (.tmp 90) (.tmp 91), some 92, some (84, true)⟩,
         ⟨.pick (.tmp 84) (.tmp 92) (.const (.bool false)), some 93, none⟩])
        (.cond (.tmp 93) (.seq (.reg [⟨.mv (.tmp 8), some 94, none⟩,
           ⟨.mv (.tmp 94), some 4, none⟩])
          (.ret))
        (.skip)))
        (.seq (.reg [⟨.mv (.tmp 8), some 95, none⟩,
         ⟨.bin .add (.tmp 95) (.const (.int .i64 1)), some 96, none⟩,
         ⟨.mv (.tmp 96), some 8, none⟩])
        (.seq (.reg [⟨.mv (.tmp 10), some 97, none⟩,
         ⟨.bin .add (.tmp 97) (.const (.int .i64 1)), some 98, none⟩,
         ⟨.mv (.tmp 98), some 10, none⟩])
        (.seq (.reg [⟨.mv (.tmp 5), some 99, none⟩,
         ⟨.ld1 (.global 0), some 100, none⟩,
         ⟨.bin .leq (.tmp 99) (.tmp 100), some 101, none⟩,
         ⟨.mv (.tmp 101), some 102, none⟩,
         ⟨.mv (.tmp 10), some 103, some (102, true)⟩,
         ⟨.mv (.tmp 8), some 104, some (102, true)⟩,
         ⟨.call 247 [.tmp 104], some 105, some (102, true)⟩,
         ⟨.bin .gtr (.tmp 103) (.tmp 105), some 106, some (102, true)⟩,
         ⟨.pick (.tmp 102) (.tmp 106) (.const (.bool false)), some 107, none⟩])
        (.cond (.tmp 107) (.seq (.reg [⟨.mv (.tmp 0), some 108, none⟩,
           ⟨.mv (.tmp 8), some 109, none⟩,
           ⟨.sls (.tmp 108) (some (.tmp 109)) none, some 110, none⟩,
           ⟨.mv (.tmp 1), some 111, none⟩,
           ⟨.raw (Op.call { callee := Callee.value (Operand.func 246), args := #[Operand.tmp 110, Operand.tmp 111], argTypes := #[9, 9] }) 3, some 112, none⟩,
           ⟨.mv (.tmp 112), some 12, none⟩])
          (.seq (.seq (.reg [⟨.mv (.tmp 12), some 113, none⟩,
           ⟨.bin .geq (.tmp 113) (.const (.int .i64 0)), some 114, none⟩])
          (.cond (.tmp 114) (.seq (.reg [⟨.mv (.tmp 12), some 115, none⟩,
             ⟨.mv (.tmp 8), some 116, none⟩,
             ⟨.bin .add (.tmp 115) (.tmp 116), some 117, none⟩,
             ⟨.mv (.tmp 117), some 4, none⟩])
            (.ret))
          (.skip)))
          (.seq (.reg [⟨.mv (.const (.int .i64 (-1))), some 4, none⟩])
          (.ret))))
        (.seq (.reg [⟨.mv (.tmp 5), some 118, none⟩,
           ⟨.ld1 (.global 0), some 119, none⟩,
           ⟨.bin .gtr (.tmp 118) (.tmp 119), some 120, none⟩,
           ⟨.mv (.tmp 120), some 121, none⟩,
           ⟨.mv (.tmp 10), some 122, some (121, true)⟩,
           ⟨.mv (.tmp 8), some 123, some (121, true)⟩,
           ⟨.bin .shr (.tmp 123) (.const (.int .u64 4)), some 124, some (121, true)⟩,
           ⟨.bin .add (.const (.int .i64 4)) (.tmp 124), some 125, some (121, true)⟩,
           ⟨.bin .geq (.tmp 122) (.tmp 125), some 126, some (121, true)⟩,
           ⟨.pick (.tmp 121) (.tmp 126) (.const (.bool false)), some 127, none⟩,
           ⟨.mv (.tmp 127), some 128, none⟩,
           ⟨.mv (.tmp 8), some 129, some (128, true)⟩,
           ⟨.mv (.tmp 9), some 130, some (128, true)⟩,
           ⟨.bin .lss (.tmp 129) (.tmp 130), some 131, some (128, true)⟩,
           ⟨.pick (.tmp 128) (.tmp 131) (.const (.bool false)), some 132, none⟩])
          (.cond (.tmp 132) (.seq (.reg [⟨.mv (.tmp 0), some 133, none⟩,
             ⟨.mv (.tmp 8), some 134, none⟩,
             ⟨.sls (.tmp 133) (some (.tmp 134)) none, some 135, none⟩,
             ⟨.mv (.tmp 1), some 136, none⟩,
             ⟨.call 248 [.tmp 135, .tmp 136], some 137, none⟩,
             ⟨.mv (.tmp 137), some 13, none⟩])
            (.seq (.seq (.reg [⟨.mv (.tmp 13), some 138, none⟩,
             ⟨.bin .lss (.tmp 138) (.const (.int .i64 0)), some 139, none⟩])
            (.cond (.tmp 139) (.seq (.reg [⟨.mv (.const (.int .i64 (-1))), some 4, none⟩])
              (.ret))
            (.skip)))
            (.seq (.reg [⟨.mv (.tmp 8), some 140, none⟩,
             ⟨.mv (.tmp 13), some 141, none⟩,
             ⟨.bin .add (.tmp 140) (.tmp 141), some 142, none⟩,
             ⟨.mv (.tmp 142), some 4, none⟩])
            (.ret))))
          (.skip)))))))))))))
  (.seq (.reg [⟨.mv (.const (.int .i64 (-1))), some 4, none⟩])
  (.ret))))))))))
theorem ok213 : FnOk Tryz.prog 213 143 R213 [.t 4] := ⟨_, _, rfl, rfl, rfl, by kernel_rfl, by kernel_rfl⟩

/-- tintype/where.Distance -/
def R145 : RC :=
  .seq (.reg [⟨.box 69 2 (.tmp 0), some 2, none⟩,
   ⟨.box 69 2 (.tmp 1), some 3, none⟩,
   ⟨.mv (.const (.int .i64 0)), some 4, none⟩,
   ⟨.mv (.const (.int .i64 0)), some 5, none⟩])
  (.seq (.seq (.reg [⟨.ldn 2 (.tmp 2), some 7, none⟩,
   ⟨.ldn 2 (.tmp 3), some 8, none⟩,
   ⟨.bslice 69 2 2 [.int .i64 0, .int .i64 0] [(0, .tmp 7), (1, .tmp 8)], some 9, none⟩,
   ⟨.call 179 [.tmp 9], some 10, none⟩,
   ⟨.mv (.tmp 10), some 6, none⟩])
  (.seq (.reg [⟨.mv (.tmp 6), some 11, none⟩,
   ⟨.bin .neq (.tmp 11) (.const (.int .i64 0)), some 12, none⟩])
  (.cond (.tmp 12) (.seq (.reg [⟨.mv (.tmp 6), some 13, none⟩,
     ⟨.mv (.const (.int .i64 0)), some 4, none⟩,
     ⟨.mv (.tmp 13), some 5, none⟩])
    (.ret))
  (.skip))))
  (.seq (.reg [⟨.ldn 2 (.tmp 2), some 14, none⟩,
   ⟨.ldn 2 (.tmp 3), some 15, none⟩,
   ⟨.call 180 [.tmp 14, .tmp 15], some 16, none⟩,
   ⟨.mv (.tmp 16), some 4, none⟩,
   ⟨.mv (.const (.int .i64 0)), some 5, none⟩])
  (.ret)))
theorem ok145 : FnOk Tryz.prog 145 17 R145 [.t 4, .t 5] := ⟨_, _, rfl, rfl, rfl, by kernel_rfl, by kernel_rfl⟩

/-- tintype/where.checkPlaces -/
def R179 : RC :=
  .seq (.reg [⟨.mv (.const (.int .i64 0)), some 2, none⟩])
  (.seq (.seq (.reg [⟨.mv (.tmp 0), some 6, none⟩,
   ⟨.len (.tmp 6), some 7, none⟩,
   ⟨.mv (.const (.int .i64 0)), some 8, none⟩])
  (.blk 0 (.loop (.seq (.reg [⟨.bin .lss (.tmp 8) (.tmp 7), some 9, none⟩])
      (.seq (.cond (.tmp 9) (.skip)
      (.exit 0))
      (.seq (.blk 1 (.seq (.reg [⟨.ia 2 (.tmp 6) (.tmp 8), some 10, none⟩,
         ⟨.ldn 2 (.tmp 10), some 11, none⟩,
         ⟨.alloc 69 [.int .i64 0, .int .i64 0], some 4, none⟩,
         ⟨.stn 2 (.tmp 4) (.tmp 11), none, none⟩])
        (.seq (.reg [⟨.ldn 2 (.tmp 4), some 12, none⟩,
         ⟨.call 214 [.tmp 12], some 13, none⟩,
         ⟨.mv (.tmp 13), some 5, none⟩])
        (.seq (.reg [⟨.mv (.tmp 5), some 14, none⟩,
         ⟨.bin .neq (.tmp 14) (.const (.int .i64 0)), some 15, none⟩])
        (.cond (.tmp 15) (.seq (.reg [⟨.mv (.tmp 5), some 16, none⟩,
           ⟨.mv (.tmp 16), some 2, none⟩])
          (.ret))
        (.skip))))))
      (.reg [⟨.bin .add (.tmp 8) (.const (.int .i64 1)), some 17, none⟩,
       ⟨.mv (.tmp 17), some 8, none⟩])))))))
  (.seq (.reg [⟨.mv (.const (.int .i64 0)), some 2, none⟩])
  (.ret)))
theorem ok179 : FnOk Tryz.prog 179 18 R179 [.t 2] := ⟨_, _, rfl, rfl, rfl, by kernel_rfl, by kernel_rfl⟩

/-- tintype/where.distance -/
def R180 : RC :=
  .seq (.reg [⟨.box 69 2 (.tmp 0), some 2, none⟩,
   ⟨.box 69 2 (.tmp 1), some 3, none⟩,
   ⟨.mv (.const (.int .i64 0)), some 4, none⟩])
  (.seq (.reg [⟨.fa 0 (.tmp 3), some 7, none⟩,
   ⟨.ld1 (.tmp 7), some 8, none⟩,
   ⟨.fa 0 (.tmp 2), some 9, none⟩,
   ⟨.ld1 (.tmp 9), some 10, none⟩,
   ⟨.bin .sub (.tmp 8) (.tmp 10), some 11, none⟩,
   ⟨.mv (.tmp 11), some 5, none⟩])
  (.seq (.drw [⟨.fa 1 (.tmp 2), some 12, none⟩,
   ⟨.ld1 (.tmp 12), some 13, none⟩,
   ⟨.fa 1 (.tmp 3), some 14, none⟩,
   ⟨.ld1 (.tmp 14), some 15, none⟩,
   ⟨.call 215 [.tmp 13, .tmp 15], some 16, none⟩,
   ⟨.fa 0 (.tmp 2), some 17, none⟩,
   ⟨.ld1 (.tmp 17), some 18, none⟩,
   ⟨.fa 0 (.tmp 3), some 19, none⟩,
   ⟨.ld1 (.tmp 19), some 20, none⟩,
   ⟨.bin .add (.tmp 18) (.tmp 20), some 21, none⟩,
   ⟨.call 217 [.tmp 21, .const (.int .i64 2)], some 22, none⟩,
   ⟨.call 216 [.tmp 22], some 23, none⟩,
   ⟨.bin .mul (.tmp 16) (.tmp 23), some 24, none⟩,
   ⟨.bin .quo (.tmp 24) (.const (.int .i64 1000000)), some 25, none⟩,
   ⟨.mv (.tmp 25), some 6, none⟩] [[], [0], [], [2], [1, 3], [], [5], [], [7], [6, 8], [9, 4], [10, 10], [4, 11], [12], [13, 11, 0, 1, 2, 3, 4, 5, 6, 7, 8, 9, 10, 11, 12, 13]])
  (.seq (.reg [⟨.mv (.tmp 5), some 26, none⟩,
   ⟨.mv (.tmp 5), some 27, none⟩,
   ⟨.bin .mul (.tmp 26) (.tmp 27), some 28, none⟩,
   ⟨.mv (.tmp 6), some 29, none⟩,
   ⟨.mv (.tmp 6), some 30, none⟩,
   ⟨.bin .mul (.tmp 29) (.tmp 30), some 31, none⟩,
   ⟨.bin .add (.tmp 28) (.tmp 31), some 32, none⟩,
   ⟨.call 218 [.tmp 32], some 33, none⟩,
   ⟨.bin .mul (.tmp 33) (.const (.int .i64 111195)), some 34, none⟩,
   ⟨.bin .quo (.tmp 34) (.const (.int .i64 1000000)), some 35, none⟩,
   ⟨.mv (.tmp 35), some 4, none⟩])
  (.ret))))
theorem ok180 : FnOk Tryz.prog 180 36 R180 [.t 4] := ⟨_, _, rfl, rfl, rfl, by kernel_rfl, by kernel_rfl⟩

/-- tintype/where.CheckPlace -/
def R214 : RC :=
  .seq (.reg [⟨.box 69 2 (.tmp 0), some 1, none⟩,
   ⟨.mv (.const (.int .i64 0)), some 2, none⟩])
  (.seq (.seq (.reg [⟨.fa 0 (.tmp 1), some 3, none⟩,
   ⟨.ld1 (.tmp 3), some 4, none⟩,
   ⟨.call 249 [.tmp 4], some 5, none⟩,
   ⟨.un .not (.tmp 5), some 6, none⟩,
   ⟨.mv (.tmp 6), some 7, none⟩,
   ⟨.fa 1 (.tmp 1), some 8, some (7, false)⟩,
   ⟨.ld1 (.tmp 8), some 9, some (7, false)⟩,
   ⟨.call 250 [.tmp 9], some 10, some (7, false)⟩,
   ⟨.un .not (.tmp 10), some 11, some (7, false)⟩,
   ⟨.pick (.tmp 7) (.const (.bool true)) (.tmp 11), some 12, none⟩])
  (.cond (.tmp 12) (.seq (.reg [⟨.mv (.const (.int .i64 2)), some 2, none⟩])
    (.ret))
  (.skip)))
  (.seq (.reg [⟨.mv (.const (.int .i64 0)), some 2, none⟩])
  (.ret)))
theorem ok214 : FnOk Tryz.prog 214 13 R214 [.t 2] := ⟨_, _, rfl, rfl, rfl, by kernel_rfl, by kernel_rfl⟩

/-- tintype/where.short -/
def R215 : RC :=
  .seq (.reg [⟨.mv (.const (.int .i64 0)), some 4, none⟩])
  (.seq (.reg [⟨.mv (.tmp 0), some 6, none⟩,
   ⟨.mv (.tmp 1), some 7, none⟩,
   ⟨.call 251 [.tmp 6, .tmp 7], some 8, none⟩,
   ⟨.mv (.tmp 8), some 5, none⟩])
  (.seq (.seq (.reg [⟨.mv (.tmp 5), some 9, none⟩,
   ⟨.bin .geq (.tmp 9) (.const (.int .i64 180000000)), some 10, none⟩])
  (.cond (.tmp 10) (.reg [⟨.mv (.tmp 5), some 11, none⟩,
     ⟨.bin .sub (.tmp 11) (.const (.int .i64 360000000)), some 12, none⟩,
     ⟨.mv (.tmp 12), some 5, none⟩])
  (.skip)))
  (.seq (.reg [⟨.mv (.tmp 5), some 13, none⟩,
   ⟨.mv (.tmp 13), some 4, none⟩])
  (.ret))))
theorem ok215 : FnOk Tryz.prog 215 14 R215 [.t 4] := ⟨_, _, rfl, rfl, rfl, by kernel_rfl, by kernel_rfl⟩

/-- tintype/where.cosine -/
def R216 : RC :=
  .seq (.reg [⟨.mv (.const (.int .i64 0)), some 2, none⟩])
  (.seq (.reg [⟨.mv (.tmp 0), some 4, none⟩,
   ⟨.bin .quo (.tmp 4) (.const (.int .i64 100)), some 5, none⟩,
   ⟨.mv (.tmp 5), some 3, none⟩])
  (.seq (.reg [⟨.mv (.tmp 3), some 6, none⟩,
   ⟨.bin .mul (.const (.int .i64 4)) (.tmp 6), some 7, none⟩,
   ⟨.mv (.tmp 3), some 8, none⟩,
   ⟨.bin .mul (.tmp 7) (.tmp 8), some 9, none⟩,
   ⟨.bin .sub (.const (.int .i64 3240000000000)) (.tmp 9), some 10, none⟩,
   ⟨.bin .mul (.tmp 10) (.const (.int .i64 1000000)), some 11, none⟩,
   ⟨.mv (.tmp 3), some 12, none⟩,
   ⟨.mv (.tmp 3), some 13, none⟩,
   ⟨.bin .mul (.tmp 12) (.tmp 13), some 14, none⟩,
   ⟨.bin .add (.const (.int .i64 3240000000000)) (.tmp 14), some 15, none⟩,
   ⟨.bin .quo (.tmp 11) (.tmp 15), some 16, none⟩,
   ⟨.mv (.tmp 16), some 2, none⟩])
  (.ret)))
theorem ok216 : FnOk Tryz.prog 216 17 R216 [.t 2] := ⟨_, _, rfl, rfl, rfl, by kernel_rfl, by kernel_rfl⟩

/-- tintype/where.floor -/
def R217 : RC :=
  .seq (.reg [⟨.mv (.const (.int .i64 0)), some 4, none⟩])
  (.seq (.reg [⟨.mv (.tmp 0), some 6, none⟩,
   ⟨.mv (.tmp 1), some 7, none⟩,
   ⟨.bin .quo (.tmp 6) (.tmp 7), some 8, none⟩,
   ⟨.mv (.tmp 8), some 5, none⟩])
  (.seq (.seq (.reg [⟨.mv (.tmp 0), some 9, none⟩,
   ⟨.mv (.tmp 1), some 10, none⟩,
   ⟨.bin .rem (.tmp 9) (.tmp 10), some 11, none⟩,
   ⟨.bin .lss (.tmp 11) (.const (.int .i64 0)), some 12, none⟩])
  (.cond (.tmp 12) (.reg [⟨.mv (.tmp 5), some 13, none⟩,
     ⟨.bin .sub (.tmp 13) (.const (.int .i64 1)), some 14, none⟩,
     ⟨.mv (.tmp 14), some 5, none⟩])
  (.skip)))
  (.seq (.reg [⟨.mv (.tmp 5), some 15, none⟩,
   ⟨.mv (.tmp 15), some 4, none⟩])
  (.ret))))
theorem ok217 : FnOk Tryz.prog 217 16 R217 [.t 4] := ⟨_, _, rfl, rfl, rfl, by kernel_rfl, by kernel_rfl⟩

/-- tintype/where.root -/
def R218 : RC :=
  .seq (.reg [⟨.mv (.const (.int .i64 0)), some 2, none⟩])
  (.seq (.reg [⟨.mv (.tmp 0), some 4, none⟩,
   ⟨.raw (Op.convert 3 289 (Operand.tmp 4)) 289, some 5, none⟩,
   ⟨.call 252 [.tmp 5], some 6, none⟩,
   ⟨.raw (Op.convert 289 3 (Operand.tmp 6)) 3, some 7, none⟩,
   ⟨.mv (.tmp 7), some 3, none⟩])
  (.seq (.blk 0 (.loop (.seq (.seq (.reg [⟨.mv (.tmp 3), some 8, none⟩,
       ⟨.mv (.tmp 3), some 9, none⟩,
       ⟨.bin .mul (.tmp 8) (.tmp 9), some 10, none⟩,
       ⟨.mv (.tmp 0), some 11, none⟩,
       ⟨.bin .gtr (.tmp 10) (.tmp 11), some 12, none⟩])
      (.cond (.tmp 12) (.skip)
      (.exit 0)))
      (.blk 1 (.reg [⟨.mv (.tmp 3), some 13, none⟩,
         ⟨.bin .sub (.tmp 13) (.const (.int .i64 1)), some 14, none⟩,
         ⟨.mv (.tmp 14), some 3, none⟩])))))
  (.seq (.blk 2 (.loop (.seq (.seq (.reg [⟨.mv (.tmp 3), some 15, none⟩,
       ⟨.bin .add (.tmp 15) (.const (.int .i64 1)), some 16, none⟩,
       ⟨.mv (.tmp 3), some 17, none⟩,
       ⟨.bin .add (.tmp 17) (.const (.int .i64 1)), some 18, none⟩,
       ⟨.bin .mul (.tmp 16) (.tmp 18), some 19, none⟩,
       ⟨.mv (.tmp 0), some 20, none⟩,
       ⟨.bin .leq (.tmp 19) (.tmp 20), some 21, none⟩])
      (.cond (.tmp 21) (.skip)
      (.exit 2)))
      (.blk 3 (.reg [⟨.mv (.tmp 3), some 22, none⟩,
         ⟨.bin .add (.tmp 22) (.const (.int .i64 1)), some 23, none⟩,
         ⟨.mv (.tmp 23), some 3, none⟩])))))
  (.seq (.reg [⟨.mv (.tmp 3), some 24, none⟩,
   ⟨.mv (.tmp 24), some 2, none⟩])
  (.ret)))))
theorem ok218 : FnOk Tryz.prog 218 25 R218 [.t 2] := ⟨_, _, rfl, rfl, rfl, by kernel_rfl, by kernel_rfl⟩

/-- tintype/where.isLat -/
def R249 : RC :=
  .seq (.reg [⟨.mv (.const (.bool false)), some 2, none⟩])
  (.seq (.reg [⟨.mv (.tmp 0), some 3, none⟩,
   ⟨.call 278 [.tmp 3, .const (.int .i64 (-90000000)), .const (.int .i64 90000000)], some 4, none⟩,
   ⟨.un .not (.tmp 4), some 5, none⟩,
   ⟨.mv (.tmp 5), some 2, none⟩])
  (.ret))
theorem ok249 : FnOk Tryz.prog 249 6 R249 [.t 2] := ⟨_, _, rfl, rfl, rfl, by kernel_rfl, by kernel_rfl⟩

/-- tintype/where.isLon -/
def R250 : RC :=
  .seq (.reg [⟨.mv (.const (.bool false)), some 2, none⟩])
  (.seq (.reg [⟨.mv (.tmp 0), some 3, none⟩,
   ⟨.call 278 [.tmp 3, .const (.int .i64 (-180000000)), .const (.int .i64 179999999)], some 4, none⟩,
   ⟨.un .not (.tmp 4), some 5, none⟩,
   ⟨.mv (.tmp 5), some 2, none⟩])
  (.ret))
theorem ok250 : FnOk Tryz.prog 250 6 R250 [.t 2] := ⟨_, _, rfl, rfl, rfl, by kernel_rfl, by kernel_rfl⟩

/-- tintype/where.eastward -/
def R251 : RC :=
  .seq (.reg [⟨.mv (.const (.int .i64 0)), some 4, none⟩])
  (.seq (.reg [⟨.mv (.tmp 1), some 5, none⟩,
   ⟨.mv (.tmp 0), some 6, none⟩,
   ⟨.bin .sub (.tmp 5) (.tmp 6), some 7, none⟩,
   ⟨.bin .rem (.tmp 7) (.const (.int .i64 360000000)), some 8, none⟩,
   ⟨.bin .add (.tmp 8) (.const (.int .i64 360000000)), some 9, none⟩,
   ⟨.bin .rem (.tmp 9) (.const (.int .i64 360000000)), some 10, none⟩,
   ⟨.mv (.tmp 10), some 4, none⟩])
  (.ret))
theorem ok251 : FnOk Tryz.prog 251 11 R251 [.t 4] := ⟨_, _, rfl, rfl, rfl, by kernel_rfl, by kernel_rfl⟩

/-- math.Sqrt -/
def R252 : RC :=
  .seq (.reg [⟨.mv (.const (.float .f64 0)), some 2, none⟩])
  (.seq (.reg [⟨.mv (.tmp 0), some 3, none⟩,
   ⟨.raw (Op.call { callee := Callee.value (Operand.func 279), args := #[Operand.tmp 3], argTypes := #[289] }) 289, some 4, none⟩,
   ⟨.mv (.tmp 4), some 2, none⟩])
  (.ret))
theorem ok252 : FnOk Tryz.prog 252 5 R252 [.t 2] := ⟨_, _, rfl, rfl, rfl, by kernel_rfl, by kernel_rfl⟩


end Go.Proofs.YtmolncgdehfejaaGreatDoor

/- Contracts: texts in small letters. -/
namespace Go.Proofs.YtmolncgdehfejaaGreatDoor
open Go
set_option maxRecDepth 10000

def lowerC (c : UInt8) : UInt8 := if 65 ≤ c.toNat ∧ c.toNat ≤ 90 then UInt8.ofNat (c.toNat + 32) else c
def lowerL (l : List UInt8) : List UInt8 := l.map lowerC
def lowerS (s : ByteArray) : ByteArray := ⟨(lowerL s.data.toList).toArray⟩
theorem lowerC_nat (c : UInt8) (h1 : 65 ≤ c.toNat) (h2 : c.toNat ≤ 90) : (lowerC c).toNat = c.toNat + 32 := by
  rw [lowerC, if_pos ⟨h1, h2⟩]; simp; omega
theorem lowerStep (l : List UInt8) (k : Nat) (h : k < l.length) : lowerL (l.take (k + 1)) ++ l.drop (k + 1) = (lowerL (l.take k) ++ l.drop k).set k (lowerC l[k]) := by
  have hlen : (lowerL (l.take k)).length = k := by simp [lowerL]; omega
  rw [List.set_append_right _ _ (by omega), hlen, Nat.sub_self, dropk h, List.set_cons_zero, List.take_succ_eq_append_getElem h]
  simp only [lowerL, List.map_append, List.map_cons, List.map_nil, List.append_assoc, List.singleton_append]
theorem lowerAt (l : List UInt8) (k : Nat) (h : k < l.length) : (lowerL (l.take k) ++ l.drop k)[k]? = some l[k] := by
  have hlen : (lowerL (l.take k)).length = k := by simp [lowerL]; omega
  rw [List.getElem?_append_right (by omega), hlen, Nat.sub_self, dropk h]; rfl

theorem setN_map {xs : List UInt8} {sp : List C1} {k : Nat} {c : UInt8} (h : k < xs.length) : setN (xs.map byteV ++ sp) k (byteV c) = (xs.set k c).map byteV ++ sp := by
  rw [setN_eq, List.set_append_left _ _ (by simpa using h), List.map_set]

theorem set_same {α : Type} {l : List α} {k : Nat} {c : α} (h : l[k]? = some c) : l.set k c = l := by
  obtain ⟨h1, h2⟩ := List.getElem?_eq_some_iff.1 h; subst h2; exact List.set_getElem_self h1
theorem ren_bytes (perm : List Nat) (xs : List UInt8) (sp : List Value) : (xs.map byteV ++ sp.map C1.v).map (ren perm) = xs.map byteV ++ sp.map C1.v := by
  rw [List.map_append, List.map_map, List.map_map]; rfl

theorem lower_ct (s : ByteArray) (hs : s.size ≤ 9223372036854775807) (g : Gh) : Ct Tryz.prog 129 [.string s] g (fun v g' => v = .string (lowerS s) ∧ g' = g) := by
  have hsz : s.data.toList.length = s.size := by simp
  refine enter ok129 (by simp) fun W => ?_
  refine vc_byteso 100 0 rfl rfl rfl rfl u9 u165 u5 fun β cap spare hcap => ?_
  generalize hl : s.data.toList = l at *
  refine vc_loop 100 rfl [3, 8, 9, 10] (fun m vs bs g' => ∃ k : Nat, k ≤ l.length ∧ m = l.length - k ∧ vs = [.c (.s 0 0 l.length cap), .c (.s 0 0 l.length cap), .c (.v (.int .i64 (l.length : Int))), .c (.v (.int .i64 (k : Int)))] ∧
      bs = [⟨some β, 5, (lowerL (l.take k) ++ l.drop k).map byteV ++ spare.map .v, true⟩] ∧ g' = g) l.length ⟨0, Nat.zero_le _, rfl, rfl, ?_, rfl⟩ ?_
  · simp [lowerL]
  rintro m vs bs' g' ⟨k, hk, rfl, rfl, rfl, rfl⟩
  refine vc_if 100 rfl rfl rfl (fun h => ?_) (fun h => ?_)
  · have hlt : k < l.length := by have := of_decide_eq_true h; omega
    have hLlen : (lowerL (l.take k) ++ l.drop k).length = l.length := by simp [lowerL]; omega
    have hat : nth ((lowerL (l.take k) ++ l.drop k).map byteV ++ spare.map .v) (0 + (k : Int).toNat * 1) = some (byteV l[k]) := by
      rw [nth_eq, List.getElem?_append_left (by simp [lowerL] at hLlen ⊢; omega), List.getElem?_map]
      simp only [Int.toNat_natCast, Nat.zero_add, Nat.mul_one, lowerAt l k hlt, Option.map_some]
    refine vc_ias 100 rfl rfl rfl rfl rfl rfl (by omega) (by omega) ?_
    refine vc_ld1o 0 _ rfl rfl rfl rfl hat ?_
    have hstep := lowerStep l k hlt
    generalize hc : l[k] = c at *
    have done : lowerC c = c → lowerL (l.take (k + 1)) ++ l.drop (k + 1) = lowerL (l.take k) ++ l.drop k := by
      intro e
      rw [hstep, e]
      have := lowerAt l k hlt
      rw [hc] at this
      exact set_same this
    refine vc_if 100 rfl rfl rfl (fun h1 => ?_) (fun h1 => ?_)
    · have h1 := of_decide_eq_true h1
      refine vc_if 100 rfl rfl rfl (fun h2 => ?_) (fun h2 => ?_)
      · have h2 := of_decide_eq_true h2
        refine vc_arith 100 rfl rfl rfl rfl rfl ((c.toNat : Int) + 97) (wraps_u8 _ (by omega) (by omega)) ?_
        refine vc_arith 100 rfl rfl rfl rfl rfl ((c.toNat : Int) + 32) (by rw [show (c.toNat : Int) + 97 - 65 = (c.toNat : Int) + 32 by omega]; exact wraps_u8 _ (by omega) (by omega)) ?_
        refine vc_ias 100 rfl rfl rfl rfl rfl rfl (by omega) (by omega) ?_
        refine vc_st1o 0 rfl rfl rfl rfl rfl rfl (by simp [lowerL] at hLlen ⊢; omega) ?_
        refine vc_arith 100 rfl rfl rfl rfl rfl ((k + 1 : Nat) : Int) (wr (by omega) (by omega) (by omega)) ?_
        refine vc_fin 100 rfl ⟨l.length - (k + 1), [0], by omega, rfl, k + 1, by omega, rfl, rfl, ?_, rfl⟩
        show [(⟨some β, 5, List.map (ren [0]) (setN ((lowerL (l.take k) ++ l.drop k).map byteV ++ spare.map .v) (0 + (k : Int).toNat * 1) (.v (.int .u8 ((c.toNat : Int) + 32)))), true⟩ : Bx)] = _
        have e : C1.v (.int .u8 ((c.toNat : Int) + 32)) = byteV (lowerC c) := by rw [byteV, lowerC_nat c (by omega) (by omega)]; rfl
        rw [e, show 0 + (k : Int).toNat * 1 = k by simp, setN_map (by omega), ren_bytes, hstep]
      · have h2 := of_decide_eq_false h2
        refine vc_arith 100 rfl rfl rfl rfl rfl ((k + 1 : Nat) : Int) (wr (by omega) (by omega) (by omega)) ?_
        refine vc_fin 100 rfl ⟨l.length - (k + 1), [0], by omega, rfl, k + 1, by omega, rfl, rfl, ?_, rfl⟩
        rw [done (by rw [lowerC, if_neg (by omega)])]
        show [(⟨some β, 5, List.map (ren [0]) ((lowerL (l.take k) ++ l.drop k).map byteV ++ spare.map .v), true⟩ : Bx)] = _
        rw [ren_bytes]
    · have h1 := of_decide_eq_false h1
      refine vc_arith 100 rfl rfl rfl rfl rfl ((k + 1 : Nat) : Int) (wr (by omega) (by omega) (by omega)) ?_
      refine vc_fin 100 rfl ⟨l.length - (k + 1), [0], by omega, rfl, k + 1, by omega, rfl, rfl, ?_, rfl⟩
      rw [done (by rw [lowerC, if_neg (by omega)])]
      show [(⟨some β, 5, List.map (ren [0]) ((lowerL (l.take k) ++ l.drop k).map byteV ++ spare.map .v), true⟩ : Bx)] = _
      rw [ren_bytes]
  · have hkl : k = l.length := by have := of_decide_eq_false h; omega
    subst hkl
    have e : lowerL (l.take l.length) ++ l.drop l.length = lowerL l := by rw [List.take_length, List.drop_length, List.append_nil]
    rw [e]
    have hll : l.length = (lowerL l).length := by simp [lowerL]
    rw [hll]
    refine vc_bstr 100 (lowerL l) rfl rfl rfl rfl u165 u5 u9 (fun j c hj => ?_) ?_
    · have hjl := (List.getElem?_eq_some_iff.1 hj).1
      rw [nth_eq, Nat.zero_add, List.getElem?_append_left (by simpa using hjl), List.getElem?_map, hj]; rfl
    · refine vc_ret0 100 rfl rfl ⟨?_, rfl⟩
      rw [lowerS, hl]; rfl

end Go.Proofs.YtmolncgdehfejaaGreatDoor

/- The laying of strings.Contains over the program, as the kit's tool writes it (lay-shelf, lay-plain). -/
namespace Go.Proofs
open Go.Shelf
def Tryz.lays144_ren : Go.Shelf.Ren := ⟨fun | 144 => 131 | 143 => 177 | 219 => 213 | 217 => 245 | 225 => 246 | 224 => 247 | 267 => 248 | 266 => 276 | 314 => 277 | n => n, fun | 9 => 9 | 4 => 4 | 3 => 3 | 5 => 5 | 46 => 82 | 146 => 321 | 51 => 209 | n => n, fun | 1 => 0 | n => n⟩
theorem Tryz.lays144 : Go.Proofs.Lays.n144 Tryz.prog Tryz.lays144_ren := {
  mixed := by kernel_rfl
  f143 := Tryz.func177.trans (congrArg some (by kernel_rfl))
  f144 := Tryz.func131.trans (congrArg some (by kernel_rfl))
  f217 := Tryz.func245.trans (congrArg some (by kernel_rfl))
  f219 := Tryz.func213.trans (congrArg some (by kernel_rfl))
  f224 := Tryz.func247.trans (congrArg some (by kernel_rfl))
  f225 := Tryz.func246.trans (congrArg some (by kernel_rfl))
  f266 := Tryz.func276.trans (congrArg some (by kernel_rfl))
  f267 := Tryz.func248.trans (congrArg some (by kernel_rfl))
  f314 := Tryz.func277.trans (congrArg some (by kernel_rfl))
  t3 := Tryz.underlying3
  a3 := Tryz.isAgg3
  z3 := Tryz.sizeOf3
  v3 := Tryz.zeroValue3
  t4 := Tryz.underlying4
  a4 := Tryz.isAgg4
  z4 := Tryz.sizeOf4
  v4 := Tryz.zeroValue4
  t5 := Tryz.underlying5
  a5 := Tryz.isAgg5
  z5 := Tryz.sizeOf5
  v5 := Tryz.zeroValue5
  t9 := Tryz.underlying9
  a9 := Tryz.isAgg9
  z9 := Tryz.sizeOf9
  v9 := Tryz.zeroValue9
  t46 := Tryz.underlying82
  a46 := Tryz.isAgg82
  z46 := Tryz.sizeOf82
  v46 := Tryz.zeroValue82
  t51 := Tryz.underlying209
  a51 := Tryz.isAgg209
  z51 := Tryz.sizeOf209
  v51 := Tryz.zeroValue209
  t146 := Tryz.underlying321
  a146 := Tryz.isAgg321
  z146 := Tryz.sizeOf321
  v146 := Tryz.zeroValue321
  g1 := by kernel_rfl }
open Go.RowKit Go.Lib in
/-- strings.Contains: "Contains reports whether substr is within s.": AT A substr OF ONE BYTE c: IT RETURNS 'decide (0 ≤ Lib.indexByte s c)'; the world is as it was. (LAID: no walk: one application.) -/
theorem Tryz.strings_Contains_one (s : ByteArray) (c : UInt8) (w : World) :
    Calls Tryz.prog 131 #[.string s, .string ⟨#[c]⟩] w fun e w' => e = .returned (.bool (decide (0 ≤ Lib.indexByte s.data.toList c))) ∧ w' = w := Any.strings_Contains_one Tryz.lays144 s c w
open Go.RowKit Go.Lib in
/-- strings.Contains: "Contains reports whether substr is within s.": IT RETURNS 'Lib.contains s substr'; the world is as it was. (LAID: no walk: one application.) -/
theorem Tryz.strings_Contains (s sub : ByteArray) (m : Int) (w : World) (hs : s.size < 4294967281) (hm : w.cell? ⟨0, 0, none⟩ = some (.int .i64 m)) :
    Calls Tryz.prog 131 #[.string s, .string sub] w fun e w' => e = .returned (.bool (Lib.contains s.data.toList sub.data.toList)) ∧ w' = w := Any.strings_Contains Tryz.lays144 s sub m w hs hm
end Go.Proofs

/- Contracts: what a condition asks of a photo, the straight ones. -/
namespace Go.Proofs.YtmolncgdehfejaaGreatDoor
open Go
set_option maxRecDepth 10000

theorem ct_of_calls {P : Program} {f : Nat} {vals : List Value} {g : Gh} {v : Value} (h : ∀ W, Ext g W → Calls P f vals.toArray W fun e w' => e = .returned v ∧ w' = W) : Ct P f vals g (fun v' g' => v' = v ∧ g' = g) := by
  intro W hW
  refine (h W hW).mono ?_
  rintro e w' ⟨rfl, rfl⟩
  exact ⟨v, g, rfl, ⟨rfl, rfl, rfl, Nat.le_refl _, fun _ _ _ => rfl⟩, Le.refl g, fun _ _ _ h => .inl h, hW, rfl, rfl⟩

/-- The library's variable that a search reads holds some number. -/
def MaxL (g : Gh) : Prop := ∃ m, g 0 0 = some (.int .i64 m)
theorem MaxL.mono {g g' : Gh} (h : MaxL g) (hl : Le g g') : MaxL g' := let ⟨m, hm⟩ := h; ⟨m, hl _ _ _ hm⟩
theorem contains_ct (s sub : ByteArray) (g : Gh) (hs : s.size < 4294967281) (hm : MaxL g) : Ct Tryz.prog 131 [.string s, .string sub] g (fun v g' => v = .bool (Lib.contains s.data.toList sub.data.toList) ∧ g' = g) := by
  obtain ⟨m, hm⟩ := hm
  exact ct_of_calls fun W hW => Go.Proofs.Tryz.strings_Contains s sub m W hs (hW _ _ _ hm)

def hasS (l : List ByteArray) (x : ByteArray) : Bool := l.any fun y => x.toList == y.toList
def hasI (l : List Int) (x : Int) : Bool := l.any fun y => x == y
theorem hasS_ct (v : Value) (l : List ByteArray) (x : ByteArray) (g : Gh) (hv : Sl g 1 StrR v l) : Ct Tryz.prog 128 [v, .string x] g (fun r g' => r = .bool (hasS l x) ∧ g' = g) := by
  obtain ⟨A, c, rfl, hlen, hat⟩ := hv
  refine enter ok128 (by simp) fun W => ?_
  refine vc_loop 100 rfl [1, 7, 8, 9] (fun m vs bs g' => ∃ k : Nat, k ≤ l.length ∧ m = l.length - k ∧ vs = [.c (.v (.string x)), .c (.v (.slice A l.length c)), .c (.v (.int .i64 (l.length : Int))), .c (.v (.int .i64 (k : Int)))] ∧ bs = [] ∧ g' = g ∧ hasS l x = hasS (l.drop k) x) l.length ⟨0, Nat.zero_le _, rfl, rfl, rfl, rfl, rfl⟩ ?_
  rintro m vs bs' g' ⟨k, hk, rfl, rfl, rfl, rfl, hI⟩
  refine vc_if 100 rfl rfl rfl (fun h => ?_) (fun h => ?_)
  · have hlt : k < l.length := by have := of_decide_eq_true h; omega
    obtain ⟨β', off, cs, rfl, hcs, hrow, ⟨rfl, hx⟩⟩ := hat k l[k] (nth_get hlt)
    rw [dropk hlt, hasS.eq_1 (_ :: _), List.any_cons] at hI
    refine vc_ia 100 rfl rfl rfl rfl (by omega) (by omega) ?_
    refine vc_ld1 100 rfl rfl rfl (v := .string l[k]) hrow.at0 ?_
    refine vc_if 100 rfl rfl rfl (fun h => ?_) (fun h => ?_)
    · refine vc_ret0 100 rfl rfl ⟨?_, rfl⟩
      rw [hI, h]; rfl
    · refine vc_arith 100 rfl rfl rfl rfl rfl ((k + 1 : Nat) : Int) (wr (by omega) (by omega) (by omega)) ?_
      refine vc_fin 100 rfl ⟨l.length - (k + 1), [], by omega, rfl, k + 1, by omega, rfl, rfl, rfl, rfl, ?_⟩
      rw [hI, h]; rfl
  · have : k = l.length := by have := of_decide_eq_false h; omega
    refine vc_ret0 100 rfl rfl ⟨?_, rfl⟩
    rw [hI, this, List.drop_length]; rfl
theorem hasI_ct (v : Value) (l : List Int) (x : Int) (g : Gh) (hv : Sl g 1 IntR v l) : Ct Tryz.prog 133 [v, .int .i64 x] g (fun r g' => r = .bool (hasI l x) ∧ g' = g) := by
  obtain ⟨A, c, rfl, hlen, hat⟩ := hv
  refine enter ok133 (by simp) fun W => ?_
  refine vc_loop 100 rfl [1, 7, 8, 9] (fun m vs bs g' => ∃ k : Nat, k ≤ l.length ∧ m = l.length - k ∧ vs = [.c (.v (.int .i64 x)), .c (.v (.slice A l.length c)), .c (.v (.int .i64 (l.length : Int))), .c (.v (.int .i64 (k : Int)))] ∧ bs = [] ∧ g' = g ∧ hasI l x = hasI (l.drop k) x) l.length ⟨0, Nat.zero_le _, rfl, rfl, rfl, rfl, rfl⟩ ?_
  rintro m vs bs' g' ⟨k, hk, rfl, rfl, rfl, rfl, hI⟩
  refine vc_if 100 rfl rfl rfl (fun h => ?_) (fun h => ?_)
  · have hlt : k < l.length := by have := of_decide_eq_true h; omega
    obtain ⟨β', off, cs, rfl, hcs, hrow, ⟨rfl, hx⟩⟩ := hat k l[k] (nth_get hlt)
    rw [dropk hlt, hasI.eq_1 (_ :: _), List.any_cons] at hI
    refine vc_ia 100 rfl rfl rfl rfl (by omega) (by omega) ?_
    refine vc_ld1 100 rfl rfl rfl (v := .int .i64 l[k]) hrow.at0 ?_
    refine vc_if 100 rfl rfl rfl (fun h => ?_) (fun h => ?_)
    · refine vc_ret0 100 rfl rfl ⟨?_, rfl⟩
      rw [hI, h]; rfl
    · refine vc_arith 100 rfl rfl rfl rfl rfl ((k + 1 : Nat) : Int) (wr (by omega) (by omega) (by omega)) ?_
      refine vc_fin 100 rfl ⟨l.length - (k + 1), [], by omega, rfl, k + 1, by omega, rfl, rfl, rfl, rfl, ?_⟩
      rw [hI, h]; rfl
  · have : k = l.length := by have := of_decide_eq_false h; omega
    refine vc_ret0 100 rfl rfl ⟨?_, rfl⟩
    rw [hI, this, List.drop_length]; rfl

/-- A photo whose numbers are right. -/
structure PhoN (p : Pho) : Prop where
  m1 : -1 ≤ p.moment
  m2 : p.moment ≤ 6311433599
  z1 : -840 ≤ p.zone
  z2 : p.zone ≤ 840
  w1 : 1 ≤ p.w
  w2 : p.w ≤ 100000
  h1 : 1 ≤ p.h
  h2 : p.h ≤ 100000
  cap : p.caption.size ≤ 200
  pl : p.wher.length ≤ 1
  at_ : ∀ x ∈ p.wher, checkPlaceI x = 0
theorem andThen_zero {a b : Int} (h : andThen a b = 0) : a = 0 ∧ b = 0 := by
  unfold andThen at h
  split at h
  · exact ⟨by assumption, h⟩
  · exact absurd h (by assumption)
theorem checkPlaces_all : ∀ (l : List Plc), checkPlacesI l = 0 → ∀ x ∈ l, checkPlaceI x = 0
  | [], _, x, h => by simp at h
  | y :: r, h, x, hx => by
    rw [checkPlacesI] at h
    split at h
    · rename_i h0
      rcases List.mem_cons.1 hx with rfl | hx
      · exact h0
      · exact checkPlaces_all r h x hx
    · exact absurd h (by assumption)
theorem phoN {p : Pho} (h : checkPhotoI p = 0) : PhoN p := by
  unfold checkPhotoI at h
  split at h; · cases h
  split at h
  · obtain ⟨a1, h⟩ := andThen_zero h
    unfold checkWhenI at a1
    split at a1; · cases a1
    rename_i hw
    simp only [Bool.or_eq_true, not_or, Bool.not_eq_true] at hw
    split at h
    · obtain ⟨a2, h⟩ := andThen_zero h
      split at h; · cases h
      rename_i hn
      simp only [Bool.or_eq_true, not_or, Bool.not_eq_true] at hn
      unfold checkWordsI at h
      split at h
      · obtain ⟨a3, h⟩ := andThen_zero h
        split at h
        · exact ⟨(outF hw.1.1).1, (outF hw.1.1).2, (outF hw.1.2).1, (outF hw.1.2).2, (outF hn.1.1.1).1, (outF hn.1.1.1).2, (outF hn.1.1.2).1, (outF hn.1.1.2).2, by assumption, by assumption, checkPlaces_all _ a2⟩
        · cases h
      · cases h
    · cases h
  · cases h

section
variable {p : Pho} {v : Value} {g : Gh} {β : Nat} {c : Cnd} {cells : List Value}
/-- What a closure holds of its condition. -/
def CndAt (g : Gh) (β : Nat) (c : Cnd) : Prop := ∃ cells, Row g β 0 cells ∧ CndR g cells c
theorem CndAt.mono {g g' : Gh} {β : Nat} {c : Cnd} (h : CndAt g β c) (hl : Le g g') : CndAt g' β c := by
  obtain ⟨cells, h1, h2⟩ := h; exact ⟨cells, h1.mono hl, CndR.mono hl _ _ h2⟩

theorem asksTag_ct (hv : PhoV g v p) (hc : CndAt g β c) : Ct Tryz.prog 127 [v, .pointer (some ⟨β, 0, none⟩)] g (fun r g' => r = .bool (hasS p.tags c.text) ∧ g' = g) := by
  obtain ⟨_, rfl, _, _, _, rfl, ⟨A1, c1, rfl, hl1, hw⟩, ht, ⟨A3, c3, rfl, hl3, hp⟩, hr⟩ := hv
  have ht0 := ht
  obtain ⟨A2, c2, rfl, hl2, ht⟩ := ht
  obtain ⟨op, kids, text, low, high, pl⟩ := c
  obtain ⟨cells, hrow, hcr⟩ := hc
  obtain ⟨B1, d1, B2, d2, rfl, _⟩ := hcr.parts
  refine enter ok127 (by simp) fun W => ?_
  refine vc_box 100 0 rfl rfl rfl rfl fun β1 => ?_
  refine vc_ld1 100 rfl rfl rfl (v := .string text) (by simpa using hrow 2 _ rfl) ?_
  refine vc_call 100 rfl rfl rfl (hasS_ct _ p.tags text _ ht0) ?_; rintro _ _ - ⟨rfl, rfl⟩
  exact vc_ret0 100 rfl rfl ⟨rfl, rfl⟩
theorem asksPerson_ct (hv : PhoV g v p) (hc : CndAt g β c) : Ct Tryz.prog 132 [v, .pointer (some ⟨β, 0, none⟩)] g (fun r g' => r = .bool (hasI p.people c.low) ∧ g' = g) := by
  obtain ⟨_, rfl, _, _, _, rfl, ⟨A1, c1, rfl, hl1, hw⟩, ⟨A2, c2, rfl, hl2, ht⟩, hp, hr⟩ := hv
  have hp0 := hp
  obtain ⟨A3, c3, rfl, hl3, hp⟩ := hp
  obtain ⟨op, kids, text, low, high, pl⟩ := c
  obtain ⟨cells, hrow, hcr⟩ := hc
  obtain ⟨B1, d1, B2, d2, rfl, _⟩ := hcr.parts
  refine enter ok132 (by simp) fun W => ?_
  refine vc_box 100 0 rfl rfl rfl rfl fun β1 => ?_
  refine vc_ld1 100 rfl rfl rfl (v := .int .i64 low) (by simpa using hrow 3 _ rfl) ?_
  refine vc_call 100 rfl rfl rfl (hasI_ct _ p.people low _ hp0) ?_; rintro _ _ - ⟨rfl, rfl⟩
  exact vc_ret0 100 rfl rfl ⟨rfl, rfl⟩
theorem asksStars_ct (hv : PhoV g v p) (hc : CndAt g β c) : Ct Tryz.prog 134 [v, .pointer (some ⟨β, 0, none⟩)] g (fun r g' => r = .bool (!outsideB p.stars c.low c.high) ∧ g' = g) := by
  obtain ⟨_, rfl, _, _, _, rfl, ⟨A1, c1, rfl, hl1, hw⟩, ⟨A2, c2, rfl, hl2, ht⟩, ⟨A3, c3, rfl, hl3, hp⟩, hr⟩ := hv
  obtain ⟨op, kids, text, low, high, pl⟩ := c
  obtain ⟨cells, hrow, hcr⟩ := hc
  obtain ⟨B1, d1, B2, d2, rfl, _⟩ := hcr.parts
  refine enter ok134 (by simp) fun W => ?_
  refine vc_box 100 0 rfl rfl rfl rfl fun β1 => ?_
  refine vc_ld1 100 rfl rfl rfl (v := .int .i64 low) (by simpa using hrow 3 _ rfl) ?_
  refine vc_ld1 100 rfl rfl rfl (v := .int .i64 high) (by simpa using hrow 4 _ rfl) ?_
  refine vc_call 100 rfl rfl rfl (outside_ct _ _ _ _) ?_; rintro _ _ - ⟨rfl, rfl⟩
  exact vc_ret0 100 rfl rfl ⟨rfl, rfl⟩

def higherI (p : Pho) : Int := if p.turn ≥ 5 then p.w - p.h else p.h - p.w
theorem higher_ct (hv : PhoV g v p) (hn : PhoN p) : Ct Tryz.prog 138 [v] g (fun r g' => r = .int .i64 (higherI p) ∧ g' = g) := by
  obtain ⟨_, rfl, _, _, _, rfl, ⟨A1, c1, rfl, hl1, hw⟩, ⟨A2, c2, rfl, hl2, ht⟩, ⟨A3, c3, rfl, hl3, hp⟩, hr⟩ := hv
  have := hn.w1; have := hn.w2; have := hn.h1; have := hn.h2
  refine enter ok138 (by simp) fun W => ?_
  refine vc_box 100 0 rfl rfl rfl rfl fun β1 => ?_
  refine vc_if 100 rfl rfl rfl (fun h => ?_) (fun h => ?_)
  · refine vc_arith 100 rfl rfl rfl rfl rfl (p.w - p.h) (wr rfl (by omega) (by omega)) ?_
    refine vc_ret0 100 rfl rfl ⟨?_, rfl⟩
    rw [higherI, if_pos (of_decide_eq_true h)]; rfl
  · refine vc_arith 100 rfl rfl rfl rfl rfl (p.h - p.w) (wr rfl (by omega) (by omega)) ?_
    refine vc_ret0 100 rfl rfl ⟨?_, rfl⟩
    rw [higherI, if_neg (of_decide_eq_false h)]; rfl
theorem asksTall_ct (hv : PhoV g v p) (hn : PhoN p) : Ct Tryz.prog 137 [v] g (fun r g' => r = .bool (decide (higherI p > 0)) ∧ g' = g) := by
  have hv0 := hv
  obtain ⟨_, rfl, _, _, _, rfl, ⟨A1, c1, rfl, hl1, hw⟩, ⟨A2, c2, rfl, hl2, ht⟩, ⟨A3, c3, rfl, hl3, hp⟩, hr⟩ := hv
  refine enter ok137 (by simp) fun W => ?_
  refine vc_box 100 0 rfl rfl rfl rfl fun β1 => ?_
  refine vc_call 100 rfl rfl rfl (higher_ct hv0 hn) ?_; rintro _ _ - ⟨rfl, rfl⟩
  exact vc_ret0 100 rfl rfl ⟨rfl, rfl⟩
theorem asksWide_ct (hv : PhoV g v p) (hn : PhoN p) : Ct Tryz.prog 139 [v] g (fun r g' => r = .bool (decide (higherI p < 0)) ∧ g' = g) := by
  have hv0 := hv
  obtain ⟨_, rfl, _, _, _, rfl, ⟨A1, c1, rfl, hl1, hw⟩, ⟨A2, c2, rfl, hl2, ht⟩, ⟨A3, c3, rfl, hl3, hp⟩, hr⟩ := hv
  refine enter ok139 (by simp) fun W => ?_
  refine vc_box 100 0 rfl rfl rfl rfl fun β1 => ?_
  refine vc_call 100 rfl rfl rfl (higher_ct hv0 hn) ?_; rintro _ _ - ⟨rfl, rfl⟩
  exact vc_ret0 100 rfl rfl ⟨rfl, rfl⟩
theorem asksSquare_ct (hv : PhoV g v p) (hn : PhoN p) : Ct Tryz.prog 140 [v] g (fun r g' => r = .bool (higherI p == 0) ∧ g' = g) := by
  have hv0 := hv
  obtain ⟨_, rfl, _, _, _, rfl, ⟨A1, c1, rfl, hl1, hw⟩, ⟨A2, c2, rfl, hl2, ht⟩, ⟨A3, c3, rfl, hl3, hp⟩, hr⟩ := hv
  refine enter ok140 (by simp) fun W => ?_
  refine vc_box 100 0 rfl rfl rfl rfl fun β1 => ?_
  refine vc_call 100 rfl rfl rfl (higher_ct hv0 hn) ?_; rintro _ _ - ⟨rfl, rfl⟩
  exact vc_ret0 100 rfl rfl ⟨rfl, rfl⟩
theorem asksTurned_ct (hv : PhoV g v p) : Ct Tryz.prog 141 [v] g (fun r g' => r = .bool (p.turn != 1) ∧ g' = g) := by
  obtain ⟨_, rfl, _, _, _, rfl, ⟨A1, c1, rfl, hl1, hw⟩, ⟨A2, c2, rfl, hl2, ht⟩, ⟨A3, c3, rfl, hl3, hp⟩, hr⟩ := hv
  refine enter ok141 (by simp) fun W => ?_
  refine vc_box 100 0 rfl rfl rfl rfl fun β1 => ?_
  exact vc_ret0 100 rfl rfl ⟨rfl, rfl⟩
theorem asksHidden_ct (hv : PhoV g v p) : Ct Tryz.prog 148 [v] g (fun r g' => r = .bool p.hidden ∧ g' = g) := by
  obtain ⟨_, rfl, _, _, _, rfl, ⟨A1, c1, rfl, hl1, hw⟩, ⟨A2, c2, rfl, hl2, ht⟩, ⟨A3, c3, rfl, hl3, hp⟩, hr⟩ := hv
  refine enter ok148 (by simp) fun W => ?_
  refine vc_box 100 0 rfl rfl rfl rfl fun β1 => ?_
  exact vc_ret0 100 rfl rfl ⟨rfl, rfl⟩

end
end Go.Proofs.YtmolncgdehfejaaGreatDoor

/- The wrap of every law's row: a call that answers true and turns nothing that was there makes the row's statement. -/
namespace Go.Proofs.YtmolncgdehfejaaGreatDoor
open Go Go.RowKit Go.ChangeShapes Go.WideShapes Go.ChangeAt
set_option maxRecDepth 100000

theorem laidOut : laidOutB Tryz.prog = true := by kernel_rfl
theorem ownNone : ownKnob Tryz.prog.godebug = none := by kernel_rfl

section
variable {H : Type} {enc : TypeId × Value → H}

theorem trodAll_below {W W' : World} (hb : Below W.heap.size W W') : ∀ (ts : List TypeId) (vs : List Value) (ds : List (DataW H)) (ps : List MemPlace),
    (∀ t ∈ ts, Tryz.prog.readableRec t = true ∧ t < Tryz.prog.types.size) → DataW.TrodAll enc Tryz.prog W 0 (fun _ => true) true ts vs ds ps → (∀ x ∈ ps, x.block < W.heap.size) →
    DataW.TrodAll enc Tryz.prog W' 0 (fun b => decide (b < W.heap.size)) true ts vs ds ps := by
  intro ts
  induction ts with
  | nil => intro vs ds ps _ h _; match vs, ds, h with | [], [], h => exact h
  | cons t ts ih =>
    intro vs ds ps ht h hlt
    match vs, ds, h with
    | v :: vs, d :: ds, h =>
      obtain ⟨p, q, h1, h2, e⟩ := h
      subst e
      obtain ⟨r1, r2⟩ := ht t List.mem_cons_self
      exact ⟨p, q, Below.trod laidOut r1 r2 h1 hb fun x hx => hlt x (List.mem_append_left _ hx), ih vs ds q (fun u hu => ht u (List.mem_cons_of_mem _ hu)) h2 fun x hx => hlt x (List.mem_append_right _ hx), rfl⟩

theorem begin0 : ((begin Tryz.prog (fun _ _ => 0) default).world.heap[0]?).bind Obj.row? = some (#[.int .i64 0], 3) := by kernel_rfl
theorem globals0 : 0 < Tryz.prog.globals.size := of_decide_eq_true (by kernel_rfl)
theorem build3 : Tryz.prog.buildable 3 = true := by kernel_rfl
theorem cellTypes3 : Tryz.prog.cellTypes Tryz.prog.depth 3 = some [3] := by kernel_rfl

/-- What a law's walk must show. -/
def WalkOf (k : Nat) (ts : List TypeId) : Prop := ∀ (W : World) (args : Array Value) (g : Gh), Ext g W → MaxL g → (∀ (H : Type) (enc : TypeId × Value → H) (base : Nat) (ds : List (DataW H)) (ps : List MemPlace),
    (∀ (j : Nat) t v, ts[j]? = some t → args[j]? = some v → Value.okWide Tryz.prog W .any base t v) → DataW.TrodAll enc Tryz.prog W 0 (fun _ => true) true ts args.toList ds ps → g = ghW W →
    Calls Tryz.prog k args W fun e W' => e = .returned (.bool true) ∧ Below W.heap.size W W')

theorem lifted_of {k : Nat} {fn : Func} {spec : ChangeSpec} {laid : List (String × DataW Unit)} (os : Os) (started : os.Started)
    (noInit : Tryz.prog.inits.idxOf? k = none) (hfn : Tryz.prog.funcs[k]? = some fn) (hres : fn.resultTypes = #[4]) (hvars : spec.vars = [])
    (hspec : ∀ ds : List (DataW H), ds.length = fn.params.size → (spec.fn H ds).results = [.lit (.bool true)] ∧ (spec.fn H ds).args = ds ∧ (spec.fn H ds).vars = [])
    (hts : ∀ t ∈ fn.params.toList, Tryz.prog.readableRec t = true ∧ t < Tryz.prog.types.size)
    (walk : WalkOf k fn.params.toList)
    (wit : ∃ (w : World) (tape : Tape) (i : Input), w.os = os ∧ (w.forCall tape i).Shaped Tryz.prog ∧ i.vars = [] ∧ Input.okWide Tryz.prog (w.forCall tape i) .any w.heap.size k i ∧
      ((spec.pre enc Tryz.prog fn [] false (w.forCall tape i).memory i.args ∧ laidMetH Tryz.prog laid (w.forCall tape i).memory) ∧ sizedMet enc Tryz.prog fn (OpenSpec.ofChange spec) false (w.forCall tape i).memory i.args) ∧ ({} : Assume).holds Tryz.prog (lone (Frame.enter Tryz.prog k i.args .normal) [] (w.forCall tape i))) :
    ReturnsInHanded {} Tryz.checked os k .any (fun w args => (spec.pre enc Tryz.prog fn [] false w args ∧ laidMetH Tryz.prog laid w) ∧ sizedMet enc Tryz.prog fn (OpenSpec.ofChange spec) false w args)
      (spec.post enc Tryz.prog fn false true false false) := by
  refine returnsInHanded_of_calls (C := Tryz.checked) ownNone started noInit wit ?_
  intro w tape i _ hsh _ hok hpre hholds
  have hsh : (w.forCall tape i).ShapedOpen Tryz.prog := hsh
  obtain ⟨_, _, _, fn', hfn', _, _, _, _, hval⟩ := hok
  have e : fn' = fn := Option.some.inj (hfn'.symm.trans hfn)
  subst e
  obtain ⟨⟨⟨ds, gs, before, hw, hc⟩, hx⟩, hz⟩ := hpre
  have hW := DataW.Whole.of_heap (w' := w.forCall tape i) (by rfl) hw
  generalize w.forCall tape i = W at hsh hval hW ⊢
  have hW' := hW
  obtain ⟨p, q, hA, hV, rfl, _, _⟩ := hW
  rw [hvars] at hV
  obtain ⟨rfl, rfl⟩ := trodVars_none hV
  have hlen : ds.length = fn'.params.size := by
    have h := hA
    have : ∀ (ts : List TypeId) (vs : List Value) (ds : List (DataW H)) (ps : List MemPlace), DataW.TrodAll enc Tryz.prog W 0 (fun _ => true) true ts vs ds ps → ds.length = ts.length := by
      intro ts
      induction ts with
      | nil => intro vs ds ps h; match vs, ds, h with | [], [], _ => rfl
      | cons t ts ih => intro vs ds ps h; match vs, ds, h with | v :: vs, d :: ds, ⟨_, _, _, h2, _⟩ => simp [ih _ _ _ h2]
    simpa using this _ _ _ _ h
  have hm : MaxL (ghW W) := cell_of_shapedOpen_int (t := 3) hsh globals0 begin0 rfl build3 cellTypes3 ty3
  have hval2 : ∀ (j : Nat) t v, fn'.params.toList[j]? = some t → i.args[j]? = some v → Value.okWide Tryz.prog W .any w.heap.size t v := fun j t v h1 h2 => hval j t v (by simpa using h1) h2
  refine (walk W i.args (ghW W) (ghW_ext W) hm H enc w.heap.size ds p hval2 hA rfl).mono fun e W' ⟨he, hb⟩ => ?_
  subst he
  simp only [List.append_nil] at hW'
  obtain ⟨s1, s2, s3⟩ := hspec (ds ++ []) (by simpa using hlen)
  refine ChangeSpec.post_blind ⟨ds, [], p, [], p, [], hW', ?_, ?_, ?_, hb.frame _, fun h => by cases h⟩
  · rw [hres, s1]
    exact trodAll_mk1 (shut_bool ty4 _)
  · rw [s2, List.append_nil]
    exact trodAll_below hb _ _ _ _ hts hA fun x hx => by simpa using hW'.lt x hx
  · rw [s3, hvars]; rfl
end

end Go.Proofs.YtmolncgdehfejaaGreatDoor

/- Closed facts of the program that every row's builder asks, each a theorem of its own. -/
namespace Go.Proofs.YtmolncgdehfejaaGreatDoor
open Go
set_option maxRecDepth 100000
theorem jf_maps : mapsRowed Tryz.prog = true := by kernel_rfl
theorem jf_stops : (Tryz.prog.stops == []) = true := by kernel_rfl
theorem jf_knobs : (Tryz.prog.stopKnobs == []) = true := by kernel_rfl
theorem jf_keys : (false == Tryz.prog.plainKeys) = true := by kernel_rfl
theorem jf_heard : Tryz.prog.stopsHeard = true := by kernel_rfl
theorem jf_enter : Tryz.prog.mayEnter = true := by kernel_rfl
theorem jf_looks : true = Tryz.prog.looks [] := by kernel_rfl
theorem jf_main : Tryz.prog.mainIs = some (true, "178fb850cf2c0d96675949065ca27c8cb0c60894bd18123ed2e3c4b96f1059bc".toList) := by kernel_rfl
end Go.Proofs.YtmolncgdehfejaaGreatDoor
