/- A part of the proof: the walk's own logic and the contracts of the functions that the claim reaches. It has no conditions beyond those that each theorem states. -/
import Derived.Test.YtmolncgdehfejaaGreatDoorTa2
import Derived.Laws.Externs
import GoSem.Core.Float
import Derived.Test.YtmolncgdehfejaaGreatDoorProg
import Derived.Test.YtmolncgdehfejaaGreatDoorTa1

/- Contracts: what a condition asks of a photo, those whose order is open. -/
namespace Go.Proofs.YtmolncgdehfejaaGreatDoor
open Go
set_option maxRecDepth 10000

section
variable {p : Pho} {v : Value} {g : Gh} {β : Nat} {c : Cnd}

theorem asksTime_ct (hv : PhoV g v p) (hn : PhoN p) (hc : CndAt g β c) : Ct Tryz.prog 135 [v, .pointer (some ⟨β, 0, none⟩)] g (fun r g' => r = .bool (decide (p.moment ≥ 0) && !outsideB (localI p) c.low c.high) ∧ g' = g) := by
  obtain ⟨_, rfl, _, _, _, rfl, ⟨A1, c1, rfl, hl1, hw⟩, ⟨A2, c2, rfl, hl2, ht⟩, ⟨A3, c3, rfl, hl3, hp⟩, hr⟩ := hv
  obtain ⟨op, kids, text, low, high, pl⟩ := c
  obtain ⟨cells, hrow, hcr⟩ := hc
  obtain ⟨B1, d1, B2, d2, rfl, _⟩ := hcr.parts
  refine enter ok135 (by simp) fun W => ?_
  refine vc_box 100 0 rfl rfl rfl rfl fun β1 => ?_
  by_cases hm : p.moment ≥ 0
  · refine vc_drawF mix 100 rfl [2, 5, 7, 9, 10] (fun i => match i with | 2 => .c (.k true) | 5 => .c (.v (.int .i64 (localI p))) | 7 => .c (.v (.int .i64 low)) | 9 => .c (.v (.int .i64 high)) | _ => .c (.v (.bool (outsideB (localI p) low high)))) rfl rfl ⟨?_, ?_, ?_, ?_, ?_, trivial⟩ ?_
    · refine vc_split 100 6 rfl rfl (fun h => ?_) (fun h => ?_)
      · exact vc_fin 100 rfl ⟨rfl, rfl, fun d hd => by injection hd with hd; subst hd; rfl⟩
      · exact absurd hm (of_decide_eq_false h)
    · refine vc_call 100 rfl rfl rfl (local_ct p A1 A2 A3 _ _ _ c1 c2 c3 hn.m1 hn.m2 hn.z1 hn.z2 _) ?_; rintro _ _ - ⟨rfl, rfl⟩
      exact vc_fin 100 rfl ⟨rfl, rfl, fun d hd => by injection hd with hd; subst hd; rfl⟩
    · refine vc_ld1 100 rfl rfl rfl (v := .int .i64 low) (by simpa using hrow 3 _ rfl) ?_
      exact vc_fin 100 rfl ⟨rfl, rfl, fun d hd => by injection hd with hd; subst hd; rfl⟩
    · refine vc_ld1 100 rfl rfl rfl (v := .int .i64 high) (by simpa using hrow 4 _ rfl) ?_
      exact vc_fin 100 rfl ⟨rfl, rfl, fun d hd => by injection hd with hd; subst hd; rfl⟩
    · refine vc_call 100 rfl rfl rfl (outside_ct _ _ _ _) ?_; rintro _ _ - ⟨rfl, rfl⟩
      exact vc_fin 100 rfl ⟨rfl, rfl, fun d hd => by injection hd with hd; subst hd; rfl⟩
    refine vc_ret0 100 rfl rfl ⟨?_, rfl⟩
    simp only [hm, decide_true, Bool.true_and]; rfl
  · refine vc_drawF mix 100 rfl [2] (fun i => .c (.k false)) rfl rfl ⟨?_, trivial⟩ ?_
    · refine vc_split 100 6 rfl rfl (fun h => ?_) (fun h => ?_)
      · exact absurd (of_decide_eq_true h) hm
      · exact vc_fin 100 rfl ⟨rfl, rfl, fun d hd => by injection hd with hd; subst hd; rfl⟩
    refine vc_ret0 100 rfl rfl ⟨?_, rfl⟩
    simp only [hm, decide_false, Bool.false_and]; rfl

theorem lowerS_size (s : ByteArray) : (lowerS s).size = s.size := by
  show ((lowerL s.data.toList).toArray).size = s.data.size
  rw [List.size_toArray, lowerL, List.length_map, Array.length_toList]
theorem asksText_ct (t : ByteArray) (hv : PhoV g v p) (hn : PhoN p) (hm : MaxL g) (ht : g β 0 = some (.string t)) : Ct Tryz.prog 130 [v, .pointer (some ⟨β, 0, none⟩)] g (fun r g' => r = .bool (Lib.contains (lowerL p.caption.data.toList) t.data.toList) ∧ g' = g) := by
  obtain ⟨_, rfl, _, _, _, rfl, ⟨A1, c1, rfl, hl1, hw⟩, ⟨A2, c2, rfl, hl2, ht'⟩, ⟨A3, c3, rfl, hl3, hp⟩, hr⟩ := hv
  have hcap := hn.cap
  have hls : (lowerS p.caption).size < 4294967281 := by
    have := lowerS_size p.caption
    omega
  refine enter ok130 (by simp) fun W => ?_
  refine vc_box 100 0 rfl rfl rfl rfl fun β1 => ?_
  refine vc_drawF mix 100 rfl [2, 3, 4] (fun i => match i with | 2 => .c (.v (.string (lowerS p.caption))) | 3 => .c (.v (.string t)) | _ => .c (.v (.bool (Lib.contains (lowerS p.caption).data.toList t.data.toList)))) rfl rfl ⟨?_, ?_, ?_, trivial⟩ ?_
  · refine vc_call 100 rfl rfl rfl (lower_ct p.caption (by omega) _) ?_; rintro _ _ - ⟨rfl, rfl⟩
    exact vc_fin 100 rfl ⟨rfl, rfl, fun d hd => by injection hd with hd; subst hd; rfl⟩
  · refine vc_ld1 100 rfl rfl rfl (v := .string t) ht ?_
    exact vc_fin 100 rfl ⟨rfl, rfl, fun d hd => by injection hd with hd; subst hd; rfl⟩
  · refine vc_call 100 rfl rfl rfl (contains_ct _ t _ hls hm) ?_; rintro _ _ - ⟨rfl, rfl⟩
    exact vc_fin 100 rfl ⟨rfl, rfl, fun d hd => by injection hd with hd; subst hd; rfl⟩
  refine vc_ret0 100 rfl rfl ⟨?_, rfl⟩
  simp [tup, lowerS]

theorem asksPlaced_ct (x : Plc) (g : Gh) : Ct Tryz.prog 143 [.agg #[.int .i64 x.lat, .int .i64 x.lon]] g (fun r g' => r = .bool true ∧ g' = g) := by
  refine enter ok143 (by simp) fun W => ?_
  refine vc_box 100 0 rfl rfl rfl rfl fun β1 => ?_
  exact vc_ret0 100 rfl rfl ⟨rfl, rfl⟩

def inBoxB (x a b : Plc) : Bool := !outsideB x.lat a.lat b.lat && (if a.lon ≤ b.lon then !outsideB x.lon a.lon b.lon else decide (x.lon ≥ a.lon) || decide (x.lon ≤ b.lon))
theorem inBox_ct (x a b : Plc) (w : Value) (g : Gh) (hw : Sl g 2 PlcR w [a, b]) : Ct Tryz.prog 147 [.agg #[.int .i64 x.lat, .int .i64 x.lon], w] g (fun r g' => r = .bool (inBoxB x a b) ∧ g' = g) := by
  obtain ⟨A, c, rfl, hlen, hat⟩ := hw
  obtain ⟨β0, off0, cs0, rfl, hcs0, hrow0, rfl, hx0⟩ := hat 0 a rfl
  obtain ⟨β9, off9, cs9, e, hcs1, hrow1, rfl, hx1⟩ := hat 1 b rfl
  injection e with e; injection e with e1 e2; subst e1 e2
  refine enter ok147 (by simp) fun W => ?_
  refine vc_box 100 0 rfl rfl rfl rfl fun β1 => ?_
  refine vc_drawF mix 100 rfl [3, 5, 7, 9, 10] (fun i => match i with | 3 => .c (.v (.pointer (some ⟨β0, off0 + 0 * 2, none⟩))) | 5 => .c (.v (.int .i64 a.lat)) | 7 => .c (.v (.pointer (some ⟨β0, off0 + 1 * 2, none⟩))) | 9 => .c (.v (.int .i64 b.lat)) | _ => .c (.v (.bool (outsideB x.lat a.lat b.lat)))) rfl rfl ⟨?_, ?_, ?_, ?_, ?_, trivial⟩ ?_
  · refine vc_ia 100 rfl rfl rfl rfl (by omega) (by simp) ?_
    exact vc_fin 100 rfl ⟨rfl, rfl, fun d hd => by injection hd with hd; subst hd; rfl⟩
  · refine vc_ld1 100 rfl rfl rfl (v := .int .i64 a.lat) hrow0.at0 ?_
    exact vc_fin 100 rfl ⟨rfl, rfl, fun d hd => by injection hd with hd; subst hd; rfl⟩
  · refine vc_ia 100 rfl rfl rfl rfl (by omega) (by simp) ?_
    exact vc_fin 100 rfl ⟨rfl, rfl, fun d hd => by injection hd with hd; subst hd; rfl⟩
  · refine vc_ld1 100 rfl rfl rfl (v := .int .i64 b.lat) hrow1.at0 ?_
    exact vc_fin 100 rfl ⟨rfl, rfl, fun d hd => by injection hd with hd; subst hd; rfl⟩
  · refine vc_call 100 rfl rfl rfl (outside_ct _ _ _ _) ?_; rintro _ _ - ⟨rfl, rfl⟩
    exact vc_fin 100 rfl ⟨rfl, rfl, fun d hd => by injection hd with hd; subst hd; rfl⟩
  refine vc_if 100 rfl rfl rfl (fun h1 => ?_) (fun h1 => ?_)
  · refine vc_ret0 100 rfl rfl ⟨?_, rfl⟩
    simp [tup, inBoxB, h1]
  refine vc_drawF mix 100 rfl [1, 3, 5, 7] (fun i => match i with | 1 => .c (.v (.pointer (some ⟨β0, off0 + 0 * 2, none⟩))) | 3 => .c (.v (.int .i64 a.lon)) | 5 => .c (.v (.pointer (some ⟨β0, off0 + 1 * 2, none⟩))) | _ => .c (.v (.int .i64 b.lon))) rfl rfl ⟨?_, ?_, ?_, ?_, trivial⟩ ?_
  · refine vc_ia 100 rfl rfl rfl rfl (by omega) (by simp) ?_
    exact vc_fin 100 rfl ⟨rfl, rfl, fun d hd => by injection hd with hd; subst hd; rfl⟩
  · refine vc_ld1 100 rfl rfl rfl (v := .int .i64 a.lon) (by simpa using hrow0 1 _ rfl) ?_
    exact vc_fin 100 rfl ⟨rfl, rfl, fun d hd => by injection hd with hd; subst hd; rfl⟩
  · refine vc_ia 100 rfl rfl rfl rfl (by omega) (by simp) ?_
    exact vc_fin 100 rfl ⟨rfl, rfl, fun d hd => by injection hd with hd; subst hd; rfl⟩
  · refine vc_ld1 100 rfl rfl rfl (v := .int .i64 b.lon) (by simpa using hrow1 1 _ rfl) ?_
    exact vc_fin 100 rfl ⟨rfl, rfl, fun d hd => by injection hd with hd; subst hd; rfl⟩
  refine vc_if 100 rfl rfl rfl (fun h2 => ?_) (fun h2 => ?_)
  · refine vc_call 100 rfl rfl rfl (outside_ct _ _ _ _) ?_; rintro _ _ - ⟨rfl, rfl⟩
    refine vc_ret0 100 rfl rfl ⟨?_, rfl⟩
    simp [tup, inBoxB, h1, of_decide_eq_true h2]
  · have h2 := of_decide_eq_false h2
    refine vc_if 100 rfl rfl rfl (fun h3 => ?_) (fun h3 => ?_)
    · refine vc_ret0 100 rfl rfl ⟨?_, rfl⟩
      simp only [tup, inBoxB, h1, h2, if_false, h3, Bool.true_or]; rfl
    · refine vc_ret0 100 rfl rfl ⟨?_, rfl⟩
      simp only [tup, inBoxB, h1, h2, if_false, h3, Bool.false_or]; rfl
theorem asksBox_ct (x a b : Plc) (hc : CndAt g β c) (hpl : c.pl = [a, b]) : Ct Tryz.prog 146 [.agg #[.int .i64 x.lat, .int .i64 x.lon], .pointer (some ⟨β, 0, none⟩)] g (fun r g' => r = .bool (inBoxB x a b) ∧ g' = g) := by
  obtain ⟨op, kids, text, low, high, pl⟩ := c
  simp only [Cnd.pl] at hpl; subst hpl
  obtain ⟨cells, hrow, hcr⟩ := hc
  obtain ⟨B1, d1, B2, d2, rfl, _, hpl, _⟩ := hcr.parts
  refine enter ok146 (by simp) fun W => ?_
  refine vc_box 100 0 rfl rfl rfl rfl fun β1 => ?_
  refine vc_ld1 100 rfl rfl rfl (v := .slice B2 2 d2) (by simpa using hrow 5 _ rfl) ?_
  refine vc_call 100 rfl rfl rfl (inBox_ct x a b _ _ hpl) ?_; rintro _ _ - ⟨rfl, rfl⟩
  exact vc_ret0 100 rfl rfl ⟨rfl, rfl⟩

def somewhere (p : Pho) (b : Plc → Bool) : Bool := match p.wher with | [] => false | x :: _ => b x
theorem placed1_ct (f : Nat) (cap : List Value) (b : Plc → Bool) (hv : PhoV g v p) (hfv : g β 0 = some (.func (.func f) #[] cap.toArray))
    (hname : ∃ fn, Tryz.prog.funcs[f]? = some fn ∧ fn.body.isSome = true ∧ (fn.name == "runtime.NumGoroutine") = false)
    (hct : ∀ x ∈ p.wher, Ct Tryz.prog f ([] ++ [.agg #[.int .i64 x.lat, .int .i64 x.lon]] ++ cap) g (fun r g' => r = .bool (b x) ∧ g' = g)) :
    Ct Tryz.prog 178 [v, .pointer (some ⟨β, 0, none⟩)] g (fun r g' => r = .bool (somewhere p b) ∧ g' = g) := by
  obtain ⟨_, rfl, _, _, _, rfl, ⟨A1, c1, rfl, hl1, hw⟩, ⟨A2, c2, rfl, hl2, ht⟩, ⟨A3, c3, rfl, hl3, hp⟩, hr⟩ := hv
  refine enter ok178 (by simp) fun W => ?_
  refine vc_box 100 0 rfl rfl rfl rfl fun β1 => ?_
  rcases hwl : p.wher with _ | ⟨x, r⟩
  · refine vc_drawF mix 100 rfl [3] (fun i => .c (.k false)) rfl rfl ⟨?_, trivial⟩ ?_
    · refine vc_split 100 7 rfl rfl (fun h => ?_) (fun h => ?_)
      · have := of_decide_eq_true h; simp at this
      · exact vc_fin 100 rfl ⟨rfl, rfl, fun d hd => by injection hd with hd; subst hd; rfl⟩
    refine vc_ret0 100 rfl rfl ⟨?_, rfl⟩
    simp [tup, somewhere, hwl]
  · obtain ⟨β0, off0, cs0, rfl, hcs0, hrow0, rfl, hx0⟩ := hw 0 x (by rw [hwl]; rfl)
    have hpos : 0 < p.wher.length := by rw [hwl]; simp
    refine vc_drawF mix 100 rfl [3, 5, 8, 9, 10] (fun i => match i with | 3 => .c (.k true) | 5 => .c (.v (.func (.func f) #[] cap.toArray)) | 8 => .c (.v (.pointer (some ⟨β0, off0 + 0 * 2, none⟩))) | 9 => .g [.v (.int .i64 x.lat), .v (.int .i64 x.lon)] | _ => .c (.v (.bool (b x)))) rfl rfl ⟨?_, ?_, ?_, ?_, ?_, trivial⟩ ?_
    · refine vc_split 100 7 rfl rfl (fun h => ?_) (fun h => ?_)
      · exact vc_fin 100 rfl ⟨rfl, rfl, fun d hd => by injection hd with hd; subst hd; rfl⟩
      · have := of_decide_eq_false h; simp at this
    · refine vc_ld1 100 rfl rfl rfl (v := .func (.func f) #[] cap.toArray) hfv ?_
      exact vc_fin 100 rfl ⟨rfl, rfl, fun d hd => by injection hd with hd; subst hd; rfl⟩
    · refine vc_ia 100 rfl rfl rfl rfl (by omega) (by simp) ?_
      exact vc_fin 100 rfl ⟨rfl, rfl, fun d hd => by injection hd with hd; subst hd; rfl⟩
    · refine vc_ldn 100 _ rfl rfl rfl rfl hrow0 ?_
      exact vc_fin 100 rfl ⟨rfl, rfl, fun d hd => by injection hd with hd; subst hd; rfl⟩
    · refine vc_callv (first := []) (cap := cap) 100 rfl rfl rfl rfl hname (hct x (by rw [hwl]; simp)) ?_; rintro _ _ - ⟨rfl, rfl⟩
      exact vc_fin 100 rfl ⟨rfl, rfl, fun d hd => by injection hd with hd; subst hd; rfl⟩
    refine vc_ret0 100 rfl rfl ⟨?_, rfl⟩
    simp [tup, somewhere, hwl]

end
end Go.Proofs.YtmolncgdehfejaaGreatDoor

/- Methods of values whose type is known: how they are found. No program stands in it. -/
namespace Go.Proofs.YtmolncgdehfejaaGreatDoor
open Go Go.RowKit

def notPtr : TypeDesc → Bool
  | .pointer _ => false
  | _ => true
theorem method_at {P : Program} {T f sig : Nat} {i : TypeInfo} {nm : String} {d : TypeDesc} (hi : P.info? T = some i) (hm : i.methods = #[{ name := nm, sig := sig, path := #[], func := some (f, false) }]) (hu : P.underlying T = some d)
    (hd : notPtr d = true) (v : Value) (W : World) :
    (method (P.types.size + Made.depth) T v nm).run P W = .ok (f, v) W := by
  have hfuel : P.types.size + Made.depth = (P.types.size + 99) + 1 := rfl
  rw [hfuel]
  have hr : ∀ o, (receiverAt T (.val v) false o).run P W = .ok v W := by
    intro o
    unfold receiverAt
    cases d <;> first
      | (cases hd; done)
      | simp [run_underlying hu, Place.get]
  generalize P.types.size + 99 = n
  rw [method]
  have hfind : i.methods.find? (fun m => m.name == nm) = some { name := nm, sig := sig, path := #[], func := some (f, false) } := by
    rw [hm]; simp
  simp only [typeInfo, Sem.run_bind, run_program, Result.andThen_ok, hi, Sem.run_pure, hfind, follow, hr]

end Go.Proofs.YtmolncgdehfejaaGreatDoor

/- The rule for append of a slice that stays to a row of one's own. No program stands in it. -/
namespace Go.Proofs.YtmolncgdehfejaaGreatDoor
open Go Go.RowKit

section
variable {X : Cx} {g : Gh}

theorem vc_appendA (n k : Nat) {st : St} {E size bytes : Nat} {z : Value} {x y : Operand} {d : Option Nat} {gd : Option (Nat × Bool)} {l : List RI} {ks : List K} {env : Env} {bs : List Bx}
    {i len cap m mc : Nat} {B : Addr} {blk : Option Nat} (keep sp : List C1) (nv : List Value) {cells : List C1}
    (hst : adv n st = ⟨.ops (⟨.append E size bytes z x y, d, gd⟩ :: l) :: ks, env, bs⟩) (hg : gdv gd env = some true) (hk : lenIs bs k = true)
    (hx : ev env x = .c (.s i 0 len cap)) (hi : nth bs i = some ⟨blk, E, cells, true⟩) (hcells : cells = keep ++ sp) (hrow : RowOk blk size len cap keep sp)
    (hy : ev env y = .c (.v (.slice (some B) m mc))) (hn1 : nv.length = m * size) (hnews : nv = [] ∨ ∃ γ off, B = ⟨γ, off, none⟩ ∧ Row g γ off nv) (hone : allOne (nv.map C1.v) = true)
    (hE : E ≠ 5) (hzs : z.cells.size = size) (hsz : 0 < size) (hm : 0 < m ∨ blk ≠ none) (h63 : len + m ≤ maxLen) (hbytes : (len + m) * bytes ≤ 140737488355328)
    (h : ∀ β cap' (spare : List Value), RowOk (some β) size (len + m) cap' (keep ++ nv.map .v) (spare.map .v) →
      vcS X ⟨.ops l :: ks, updO env d (.c (.s k 0 (len + m) cap')), setN bs i ⟨blk, E, cells, false⟩ ++ [⟨some β, E, (keep ++ nv.map .v) ++ spare.map .v, true⟩]⟩ g) : vcS X st g := by
  refine adv_ok n ?_
  rw [hst]
  refine ops_value hg fun o ho a W hs ha => ?_
  have hk := lenIs_eq _ _ hk
  obtain ⟨c, t, inf, hop, hcall, hargs, htypes, hu, hinf, hz, hsize, hby⟩ := resO_inv ho
  obtain ⟨hr1, hr2, hr3, hr4, hr5⟩ := hrow
  have ex := is_ev ha x; rw [hx] at ex
  have ey := is_ev ha y; rw [hy] at ey
  simp only [Is, IsC, C1.at, hi] at ex
  have ey : Value.slice (some B) m mc = a.eval y := Eq.symm ey
  -- the news
  have hn2 : ∀ (j : Nat) v, nv[j]? = some v → W.cell? (B.add j) = some v := fun j v hj => by
    rcases hnews with e | ⟨γ, off, rfl, hnews⟩
    · rw [e] at hj; simp at hj
    · rw [addr_add]; exact hs.ext _ _ _ (hnews j v (by rw [nth_eq]; exact hj))
  have hn5 : ∀ o x, nth (nv.map C1.v) o = some x → ∃ u, nv.toArray[o]? = some u ∧ IsC bs x u := fun o x ho => by
    rw [nth_map, nth_eq] at ho
    cases hc : nv[o]? with
    | none => rw [hc] at ho; cases ho
    | some u => rw [hc] at ho; simp only [Option.map_some, Option.some.injEq] at ho; subst ho; exact ⟨u, by simpa using hc, rfl⟩
  have hnewsOne : ∀ u ∈ nv, u.oneCell' = true := by
    intro u hu
    obtain ⟨q, hq, rfl⟩ := List.getElem_of_mem hu
    have hy' : nth (nv.map C1.v) q = some (.v nv[q]) := by rw [nth_map, nth_eq]; simp [hq]
    exact one_oneCell (allOne_nth _ hone q _ hy') (bs := bs) rfl
  -- the row
  have hown : ∃ (v : Value) (xs : List Value), a.eval x = v ∧ W.ownsRow 0 E size v len xs ∧ xs.length = len * size ∧ (∀ q y, nth keep q = some y → ∃ u, xs[q]? = some u ∧ IsC bs y u) ∧
      ((blk = none ∧ v.ownBlock = none) ∨ ∃ β, blk = some β ∧ v.ownBlock = some β) := by
    cases blk with
    | none =>
      have hc0 := hr5 rfl
      subst hc0
      have hl0 : len = 0 := by omega
      subst hl0
      have hk0 : keep = [] := List.eq_nil_of_length_eq_zero (by simpa using hr1)
      subst hk0
      simp only [and_self, if_true, Option.some.injEq] at ex
      refine ⟨.slice none 0 0, [], ex.symm, World.ownsRow_nil W 0 E size, by simp, fun q y hq => by simp [nth] at hq, .inl ⟨rfl, rfl⟩⟩
    | some β =>
      simp only [Option.some.injEq] at ex
      obtain ⟨cur, hcur, hcs, hcc⟩ := hs.own i _ β hi rfl rfl
      have hcur := hcur.plain hE
      subst hcells
      have hcs' : cur.size = cap * size := by
        simp only [List.length_append, hr1, hr4] at hcs
        rw [hcs, ← Nat.add_mul]
        congr 1; omega
      have htake : (cur.toList.take (len * size)).length = len * size := by
        rw [List.length_take, Array.length_toList, hcs']
        exact Nat.min_eq_left (Nat.mul_le_mul_right _ hr2)
      refine ⟨.slice (some ⟨β, 0, none⟩) len cap, cur.toList.take (len * size), ex.symm, ⟨htake, .inr ⟨β, cap, cur, rfl, Nat.zero_le _, hcur, hr2, hr3, hcs', rfl⟩⟩, htake, fun q y hq => ?_, .inr ⟨β, rfl, rfl⟩⟩
      have hql := nth_lt hq
      obtain ⟨u, e1, e2⟩ := hcc q y (by rw [nth_append, if_pos hql]; exact hq)
      refine ⟨u, ?_, e2⟩
      rw [List.getElem?_take, if_pos (by rw [← hr1]; exact hql)]
      simpa using e1
  obtain ⟨v, xs, hev, hown, hxl, hxs, hblk⟩ := hown
  obtain ⟨v', W', hrun, hown', hgrown, hnil, hat⟩ := run_append_own_at (P := X.P) W 0 t o.type E inf z size bytes hu hinf hz hsize hby hzs hsz v len xs hown B m mc nv hn1 (fun q u hq => hn2 q u hq) hnewsOne h63 hbytes (Nat.zero_le _)
  -- what came back
  rcases hown'.2 with ⟨e, _⟩ | ⟨β', cap', cur', rfl, _, hcur', hc1, hc2, hc3, hc4⟩
  · have h9 := hnil.1 e
    rcases hm with hm | hm
    · omega
    · rcases hblk with ⟨e0, _⟩ | ⟨β0, e0, e9⟩
      · exact absurd e0 hm
      · rw [h9.1] at e9; cases e9
  have hmul : (len + m) * size = len * size + m * size := Nat.add_mul _ _ _
  have hle : (len + m) * size ≤ cap' * size := Nat.mul_le_mul_right _ hc1
  have hnl : (nv.map C1.v).length = m * size := by rw [List.length_map]; exact hn1
  have hrowok : RowOk (some β') size (len + m) cap' (keep ++ nv.map .v) ((cur'.toList.drop ((len + m) * size)).map .v) := by
    refine ⟨by rw [List.length_append, hr1, hnl, hmul], hc1, hc2, ?_, fun e => by cases e⟩
    rw [List.length_map, List.length_drop, Array.length_toList, hc3, Nat.sub_mul]
  have hkeepB : ∀ q b, nth (setN bs i ⟨blk, E, cells, false⟩) q = some b → b.own = true → q ≠ i ∧ nth bs q = some b := by
    intro q b hq ho'
    rw [nth_setN] at hq
    by_cases e : i = q
    · rw [if_pos ⟨e, by rw [← e]; exact nth_lt hi⟩] at hq
      injection hq with hq; subst hq; cases ho'
    · rw [if_neg (fun h => e h.1)] at hq; exact ⟨fun h => e h.symm, hq⟩
  have hlen1 : (setN bs i ⟨blk, E, cells, false⟩).length = k := by rw [setN_eq, List.length_set, hk]
  have look : ∀ q b, nth (setN bs i ⟨blk, E, cells, false⟩ ++ [⟨some β', E, (keep ++ nv.map .v) ++ (cur'.toList.drop ((len + m) * size)).map .v, true⟩]) q = some b → b.own = true →
      (q ≠ i ∧ q < k ∧ nth bs q = some b) ∨ (q = k ∧ b = ⟨some β', E, (keep ++ nv.map .v) ++ (cur'.toList.drop ((len + m) * size)).map .v, true⟩) := by
    intro q b hq ho'
    rw [nth_append, hlen1] at hq
    split at hq
    · rename_i hlt
      obtain ⟨h1, h2⟩ := hkeepB q b hq ho'
      exact .inl ⟨h1, hlt, h2⟩
    · rename_i hge
      have := nth_lt hq
      simp only [List.length_singleton] at this
      rw [show q - k = 0 by omega] at hq
      simp only [nth, Option.some.injEq] at hq
      exact .inr ⟨by omega, hq.symm⟩
  have hlater : Later bs (setN bs i ⟨blk, E, cells, false⟩ ++ [⟨some β', E, (keep ++ nv.map .v) ++ (cur'.toList.drop ((len + m) * size)).map .v, true⟩]) :=
    (Later.setN hi (b' := ⟨blk, E, cells, false⟩) rfl).trans (Later.append _ _)
  have hother : ∀ q b β, q ≠ i → nth bs q = some b → b.own = true → b.blk = some β → W'.heap[β]? = W.heap[β]? ∧ β ≠ β' := by
    intro q b β hq hb ho' hβ
    obtain ⟨cs, e1, _⟩ := hs.own q b β hb ho' hβ
    have hlt : β < W.heap.size := e1.lt
    have hne : some β ≠ v.ownBlock := by
      rcases hblk with ⟨_, e⟩ | ⟨β0, e0, e⟩
      · rw [e]; simp
      · rw [e]
        intro he; injection he with he; subst he
        exact hq (hs.apart q i b _ β hb hi ho' rfl hβ e0)
    refine ⟨hgrown.block β hlt hne, ?_⟩
    rintro rfl
    have hat' : (some β : Option Nat) = v.ownBlock ∨ (some β : Option Nat) = some W.heap.size := hat
    rcases hat' with e | e
    · exact hne e
    · injection e with e; omega
  have hβ' : (β' ∈ X.inh ∨ X.W0.heap.size ≤ β') ∧ ∀ q, g β' q = none := by
    have hat' : (some β' : Option Nat) = v.ownBlock ∨ (some β' : Option Nat) = some W.heap.size := hat
    rcases hat' with e | e
    · rcases hblk with ⟨_, e2⟩ | ⟨β0, e0, e2⟩
      · rw [e2] at e; cases e
      · rw [e2] at e; injection e with e; subst e
        exact hs.fresh i _ β' hi rfl e0
    · injection e with e; subst e
      refine ⟨.inr hs.size, fun q => ?_⟩
      cases hgq : g W.heap.size q with
      | none => rfl
      | some u =>
        have := World.block_lt_of_cell? W _ (hs.ext _ _ _ hgq)
        simp at this
  refine ⟨.value (.slice (some ⟨β', 0, none⟩) (len + m) cap'), .slice (some ⟨β', 0, none⟩) (len + m) cap', W', .c (.s k 0 (len + m) cap'), _, g, ?_, .inl rfl, ?_,
    ⟨hgrown.os.trans hs.os, hgrown.tape.trans hs.tape, hgrown.output.trans hs.output, Nat.le_trans hs.size hgrown.size, fun q hq hqn => ?_, fun q p u hgq => ?_, hs.le, hs.new, fun q b β hq ho' hβ => ?_, fun q b β hq ho' hβ => ?_, fun q p b b' β hq hp ho1 ho2 hβ1 hβ2 => ?_⟩,
    hlater, h β' cap' _ hrowok⟩
  · have hargs' : c.args = #[x, y] := Array.ext' (by simpa using hargs)
    have htypes' : c.argTypes = #[t, t] := Array.ext' (by simpa using htypes)
    simp only [execOp, hop, resolve, hcall, hargs', htypes', Sem.run_bind, Sem.run_pure, Result.andThen_ok, invoke, builtin, List.map_toArray, List.map_cons, List.map_nil, hev, ← ey, hrun]
  · simp [Is, IsC, C1.at, nth_append, hlen1, nth]
  · have hne : some q ≠ v.ownBlock := by
      rcases hblk with ⟨_, e⟩ | ⟨β0, e0, e⟩
      · rw [e]; simp
      · rw [e]
        intro he; injection he with he; subst he
        rcases (hs.fresh i _ q hi rfl e0).1 with h1 | h1
        · exact hqn h1
        · omega
    rw [hgrown.block q (by have := hs.size; omega) hne]
    exact hs.old q hq hqn
  · have hc := hs.ext q p u hgq
    refine hgrown.cell hc ?_
    rcases hblk with ⟨_, e⟩ | ⟨β0, e0, e⟩
    · rw [e]; simp
    · rw [e]
      intro he; injection he with he
      have := (hs.fresh i _ β0 hi rfl e0).2 p
      rw [← he] at this
      rw [this] at hgq; cases hgq
  · rcases look q b hq ho' with ⟨h1, h2, h3⟩ | ⟨rfl, rfl⟩
    · obtain ⟨cs, e1, e2, e3⟩ := hs.own q b β h3 ho' hβ
      exact ⟨cs, e1.of_eq (hother q b β h1 h3 ho' hβ).1, e2, fun o' y' hy' => let ⟨u, a1, a2⟩ := e3 o' y' hy'; ⟨u, a1, hlater _ _ a2⟩⟩
    · injection hβ with hβ; subst hβ
      refine ⟨cur', ⟨_, hcur', .inl rfl⟩, ?_, fun o' y' hy' => ?_⟩
      · simp only [List.length_append, hr1, hnl, List.length_map, List.length_drop, Array.length_toList, hc3]
        omega
      · have hxn : (xs ++ nv).length = (len + m) * size := by rw [List.length_append, hxl, hn1, hmul]
        have hcurl : cur'.toList = (xs ++ nv) ++ cur'.toList.drop ((len + m) * size) := by
          rw [← hc4, List.take_append_drop]
        have hget : cur'[o']? = ((xs ++ nv) ++ cur'.toList.drop ((len + m) * size))[o']? := by
          rw [← hcurl]; simp
        rw [hget]
        have hkn : (keep ++ nv.map C1.v).length = (len + m) * size := by rw [List.length_append, hr1, hnl, hmul]
        rw [nth_append, hkn] at hy'
        split at hy'
        · rename_i hlt
          rw [List.getElem?_append_left (by rw [hxn]; exact hlt)]
          rw [nth_append, hr1] at hy'
          split at hy'
          · rename_i hlt2
            obtain ⟨u, e1, e2⟩ := hxs o' y' hy'
            exact ⟨u, by rw [List.getElem?_append_left (by rw [hxl]; exact hlt2)]; exact e1, hlater _ _ e2⟩
          · rename_i hge2
            obtain ⟨u, e1, e2⟩ := hn5 _ _ hy'
            exact ⟨u, by rw [List.getElem?_append_right (by rw [hxl]; omega), hxl]; simpa using e1, hlater _ _ e2⟩
        · rename_i hge
          rw [List.getElem?_append_right (by rw [hxn]; omega), hxn]
          rw [nth_map, nth_eq] at hy'
          cases hd : (cur'.toList.drop ((len + m) * size))[o' - (len + m) * size]? with
          | none => simp [hd] at hy'
          | some u =>
            simp only [hd, Option.map_some, Option.some.injEq] at hy'
            subst hy'
            exact ⟨u, rfl, rfl⟩
  · rcases look q b hq ho' with ⟨h1, h2, h3⟩ | ⟨rfl, rfl⟩
    · exact hs.fresh q b β h3 ho' hβ
    · injection hβ with hβ; subst hβ; exact hβ'
  · rcases look q b hq ho1 with ⟨h1, h2, h3⟩ | ⟨rfl, rfl⟩ <;> rcases look p b' hp ho2 with ⟨h1', h2', h3'⟩ | ⟨rfl, rfl⟩
    · exact hs.apart q p b b' β h3 h3' ho1 ho2 hβ1 hβ2
    · injection hβ2 with hβ2; subst hβ2
      exact absurd rfl (hother q b _ h1 h3 ho1 hβ1).2
    · injection hβ1 with hβ1; subst hβ1
      exact absurd rfl (hother p b' _ h1' h3' ho2 hβ2).2
    · rfl

theorem vc_appendg (n k : Nat) {st : St} {E size bytes : Nat} {z : Value} {x y : Operand} {d : Option Nat} {gd : Option (Nat × Bool)} {l : List RI} {ks : List K} {env : Env} {bs : List Bx}
    {i γ len cap off m mc : Nat} {blk : Option Nat} (keep sp : List C1) (nv : List Value) {cells : List C1}
    (hst : adv n st = ⟨.ops (⟨.append E size bytes z x y, d, gd⟩ :: l) :: ks, env, bs⟩) (hg : gdv gd env = some true) (hk : lenIs bs k = true)
    (hx : ev env x = .c (.s i 0 len cap)) (hi : nth bs i = some ⟨blk, E, cells, true⟩) (hcells : cells = keep ++ sp) (hrow : RowOk blk size len cap keep sp)
    (hy : ev env y = .c (.v (.slice (some ⟨γ, off, none⟩) m mc))) (hn1 : nv.length = m * size) (hnews : Row g γ off nv) (hone : allOne (nv.map C1.v) = true)
    (hE : E ≠ 5) (hzs : z.cells.size = size) (hsz : 0 < size) (hm : 0 < m ∨ blk ≠ none) (h63 : len + m ≤ maxLen) (hbytes : (len + m) * bytes ≤ 140737488355328)
    (h : ∀ β cap' (spare : List Value), RowOk (some β) size (len + m) cap' (keep ++ nv.map .v) (spare.map .v) →
      vcS X ⟨.ops l :: ks, updO env d (.c (.s k 0 (len + m) cap')), setN bs i ⟨blk, E, cells, false⟩ ++ [⟨some β, E, (keep ++ nv.map .v) ++ spare.map .v, true⟩]⟩ g) : vcS X st g :=
  vc_appendA n k keep sp nv hst hg hk hx hi hcells hrow hy hn1 (.inr ⟨γ, off, rfl, hnews⟩) hone hE hzs hsz hm h63 hbytes h

end
end Go.Proofs.YtmolncgdehfejaaGreatDoor

/- Rules for comparisons with nil and of bools, for min and cap. No program stands in it. -/
namespace Go.Proofs.YtmolncgdehfejaaGreatDoor
open Go Go.RowKit

section
variable {X : Cx} {g : Gh}

/-- x == nil of a slice. -/
theorem vc_eqnil (n : Nat) {st : St} {T T' ty e : Nat} {x : Operand} {d : Option Nat} {gd : Option (Nat × Bool)} {l : List RI} {ks : List K} {env : Env} {bs : List Bx} {A : Option Addr} {len cap : Nat}
    (hst : adv n st = ⟨.ops (⟨.raw (.binOp .eql T x (.const (.slice none 0 0)) T') ty, d, gd⟩ :: l) :: ks, env, bs⟩) (hg : gdv gd env = some true) (hx : ev env x = .c (.v (.slice A len cap))) (hu : X.P.underlying T = some (.slice e))
    (h : vcS X ⟨.ops l :: ks, updO env d (.c (.v (.bool A.isNone))), bs⟩ g) : vcS X st g := by
  refine adv_ok n ?_
  rw [hst]
  refine ops_value hg fun o ho a W hsim ha => ?_
  obtain ⟨hop, _⟩ := resO_inv ho
  have ex := is_ev ha x; rw [hx] at ex
  refine ⟨.value (.bool A.isNone), .bool A.isNone, W, .c (.v (.bool A.isNone)), bs, g, ?_, .inl rfl, rfl, hsim, Later.refl _, h⟩
  have hq : (Op.equal T (.slice A len cap) (.slice none 0 0)).run X.P W = .ok A.isNone W := by
    have hd : Op.maxDepth = 9999 + 1 := rfl
    unfold Op.equal
    rw [hd, Op.equalIn]
    cases A <;> simp [run_underlying hu]
  have hgu : (eqGuard .eql T x (.const (.slice none 0 0)) (.slice A len cap) (.slice none 0 0)).run X.P W = .ok () W := rfl
  have e2 : a.eval (.const (.slice none 0 0)) = .slice none 0 0 := rfl
  have hb : (binOp .eql T (.slice A len cap) (.slice none 0 0)).run X.P W = .ok (.bool A.isNone) W := by
    simp only [binOp, Sem.run_bind, hq, Result.andThen_ok, Sem.run_pure]
  simp only [execOp, hop, show a.eval x = _ from ex, e2, Sem.run_bind, hgu, Result.andThen_ok, hb, Sem.run_pure]

/-- Two bools compared. -/
def boolCmp : BinOp → Bool → Bool → Option Bool
  | .eql, a, b => some (a == b)
  | .neq, a, b => some (!(a == b))
  | _, _, _ => none
theorem vc_bools (n : Nat) {st : St} {op : BinOp} {T T' ty : Nat} {x y : Operand} {d : Option Nat} {gd : Option (Nat × Bool)} {l : List RI} {ks : List K} {env : Env} {bs : List Bx} {p q r : Bool}
    (hst : adv n st = ⟨.ops (⟨.raw (.binOp op T x y T') ty, d, gd⟩ :: l) :: ks, env, bs⟩) (hg : gdv gd env = some true) (hx : conc bs (ev env x) = some (.bool p)) (hy : conc bs (ev env y) = some (.bool q)) (hu : X.P.underlying T = some .bool)
    (hr : boolCmp op p q = some r) (h : vcS X ⟨.ops l :: ks, updO env d (.c (.v (.bool r))), bs⟩ g) : vcS X st g := by
  refine adv_ok n ?_
  rw [hst]
  refine ops_value hg fun o ho a W hsim ha => ?_
  obtain ⟨hop, _⟩ := resO_inv ho
  have ex := conc_is (is_ev ha x) hx
  have ey := conc_is (is_ev ha y) hy
  refine ⟨.value (.bool r), .bool r, W, .c (.v (.bool r)), bs, g, ?_, .inl rfl, rfl, hsim, Later.refl _, h⟩
  have hq : (Op.equal T (.bool p) (.bool q)).run X.P W = .ok (p == q) W := by
    have hd : Op.maxDepth = 9999 + 1 := rfl
    unfold Op.equal
    rw [hd, Op.equalIn]
    simp [run_underlying hu]
  have hgu : (eqGuard op T x y (.bool p) (.bool q)).run X.P W = .ok () W := by
    unfold eqGuard
    cases op <;> rfl
  have hb : (binOp op T (.bool p) (.bool q)).run X.P W = .ok (.bool r) W := by
    cases op <;> simp only [boolCmp, reduceCtorEq] at hr <;> injection hr with hr <;> subst hr <;> simp only [binOp, Sem.run_bind, hq, Result.andThen_ok, Sem.run_pure]
  simp only [execOp, hop, show a.eval x = _ from ex, show a.eval y = _ from ey, Sem.run_bind, hgu, Result.andThen_ok, hb, Sem.run_pure]

/-- min of two ints. -/
theorem vc_min (n : Nat) {st : St} {ty : Nat} {c : Call} {x y : Operand} {d : Option Nat} {gd : Option (Nat × Bool)} {l : List RI} {ks : List K} {env : Env} {bs : List Bx} {p q : Int}
    (hst : adv n st = ⟨.ops (⟨.raw (.call c) ty, d, gd⟩ :: l) :: ks, env, bs⟩) (hg : gdv gd env = some true) (hc : c.callee = .builtin .min) (hargs : c.args = #[x, y]) (hx : ev env x = .c (.v (.int .i64 p))) (hy : ev env y = .c (.v (.int .i64 q)))
    (h : vcS X ⟨.ops l :: ks, updO env d (.c (.v (.int .i64 (if q < p then q else p)))), bs⟩ g) : vcS X st g := by
  refine adv_ok n ?_
  rw [hst]
  refine ops_value hg fun o ho a W hsim ha => ?_
  obtain ⟨hop, _⟩ := resO_inv ho
  have ex := is_ev ha x; rw [hx] at ex
  have ey := is_ev ha y; rw [hy] at ey
  refine ⟨.value (.int .i64 (if q < p then q else p)), _, W, .c (.v (.int .i64 (if q < p then q else p))), bs, g, ?_, .inl rfl, rfl, hsim, Later.refl _, h⟩
  simp only [execOp, hop, resolve, hc, hargs, Sem.run_bind, Sem.run_pure, Result.andThen_ok, invoke, builtin, List.map_toArray, List.map_cons, List.map_nil, show a.eval x = _ from ex, show a.eval y = _ from ey, run_min_int2]

end
end Go.Proofs.YtmolncgdehfejaaGreatDoor

/- Rules: functions without a text of their own, floats. No program stands in it. -/
namespace Go.Proofs.YtmolncgdehfejaaGreatDoor
open Go Go.RowKit

section
variable {X : Cx} {g : Gh}

/-- A function that the library does not write in Go: it gives a value and turns nothing. -/
theorem vc_extern (n : Nat) {st : St} {T f : Nat} {c : Call} {args : List Operand} {fn : Func} {e : Array Value → Sem Value} {v : Value} {vals : List Value} {d : Option Nat} {gd : Option (Nat × Bool)} {l : List RI} {ks : List K} {env : Env} {bs : List Bx}
    (hst : adv n st = ⟨.ops (⟨.raw (.call c) T, d, gd⟩ :: l) :: ks, env, bs⟩) (hg : gdv gd env = some true) (hc : c.callee = .value (.func f)) (hargs : c.args = args.toArray) (hv : concs bs env args = some vals)
    (hf : X.P.funcs[f]? = some fn) (hname : (fn.name == "runtime.NumGoroutine") = false) (hb : fn.body.isNone = true) (hn : Extern.findNext fn = none) (he : Extern.find fn = some e)
    (hrun : ∀ W, (e vals.toArray).run X.P W = .ok v W) (h : vcS X ⟨.ops l :: ks, updO env d (ofV v), bs⟩ g) : vcS X st g := by
  refine adv_ok n ?_
  rw [hst]
  refine ops_value hg fun o ho a W hsim ha => ?_
  obtain ⟨hop, _⟩ := resO_inv ho
  have hm := concs_map ha args vals hv
  have harr : c.args.map a.eval = vals.toArray := Array.ext' (by rw [Array.toList_map, hargs]; exact hm)
  have hcall : (callFunc f vals.toArray).run X.P W = .ok (.value v) W := by rw [run_callFunc_extern hf hname hb hn he, hrun]; rfl
  refine ⟨.value v, v, W, ofV v, bs, g, ?_, .inl rfl, is_ofV bs v, hsim, Later.refl _, h⟩
  simp [execOp, hop, resolve, hc, harr, Act.eval, Deferred.ofValue, invoke, hcall]

theorem vc_i2f (n : Nat) {st : St} {s t T : Nat} {x : Operand} {k : IntKind} {q : FloatKind} {m : Int} {d : Option Nat} {gd : Option (Nat × Bool)} {l : List RI} {ks : List K} {env : Env} {bs : List Bx}
    (hst : adv n st = ⟨.ops (⟨.raw (.convert s t x) T, d, gd⟩ :: l) :: ks, env, bs⟩) (hg : gdv gd env = some true) (hx : ev env x = .c (.v (.int k m))) (h1 : X.P.underlying s = some (.int k)) (h2 : X.P.underlying t = some (.float q))
    (h : vcS X ⟨.ops l :: ks, updO env d (.c (.v (.float q (q.nearest m)))), bs⟩ g) : vcS X st g := by
  refine adv_ok n ?_
  rw [hst]
  refine ops_value hg fun o ho a W hsim ha => ?_
  obtain ⟨hop, _⟩ := resO_inv ho
  have ex := is_ev ha x; rw [hx] at ex
  refine ⟨.value (.float q (q.nearest m)), _, W, .c (.v (.float q (q.nearest m))), bs, g, ?_, .inl rfl, rfl, hsim, Later.refl _, h⟩
  simp [execOp, hop, show a.eval x = _ from ex, convert, run_underlying h1, run_underlying h2, Conv.intToFloat]
theorem vc_f2i (n : Nat) {st : St} {s t T : Nat} {x : Operand} {k : IntKind} {q : FloatKind} {w : Nat} {d : Option Nat} {gd : Option (Nat × Bool)} {l : List RI} {ks : List K} {env : Env} {bs : List Bx} (m : Int)
    (hst : adv n st = ⟨.ops (⟨.raw (.convert s t x) T, d, gd⟩ :: l) :: ks, env, bs⟩) (hg : gdv gd env = some true) (hx : ev env x = .c (.v (.float q w))) (h1 : X.P.underlying s = some (.float q)) (h2 : X.P.underlying t = some (.int k))
    (hm : (q.decode w).toInt .zero = some m) (hlo : k.min ≤ m) (hhi : m ≤ k.max) (h : vcS X ⟨.ops l :: ks, updO env d (.c (.v (.int k m))), bs⟩ g) : vcS X st g := by
  refine adv_ok n ?_
  rw [hst]
  refine ops_value hg fun o ho a W hsim ha => ?_
  obtain ⟨hop, _⟩ := resO_inv ho
  have ex := is_ev ha x; rw [hx] at ex
  refine ⟨.value (.int k m), _, W, .c (.v (.int k m)), bs, g, ?_, .inl rfl, rfl, hsim, Later.refl _, h⟩
  simp [execOp, hop, show a.eval x = _ from ex, convert, run_underlying h1, run_underlying h2, Conv.floatToInt, hm, hlo, hhi]
end
end Go.Proofs.YtmolncgdehfejaaGreatDoor

/- Plain facts on floats: the root of a number that is not too great is no great number. -/
namespace Go.Proofs.YtmolncgdehfejaaGreatDoor
open Ieee
set_option maxRecDepth 10000

theorem two_pow_mono {a b : Nat} (h : a ≤ b) : 2 ^ a ≤ 2 ^ b := Nat.pow_le_pow_right (by omega) h

theorem read_rung {r k : Nat} (hr : r ≤ k * 2 ^ 52) (hk : 1 ≤ k) (hk2 : k ≤ 2000) : ∃ m e, double.read r = .number false m e ∧ m < 2 ^ 53 ∧ e ≤ -1074 + ((k : Int) - 1) := by
  have hs : double.signWeight = 2 ^ 63 := rfl
  have hb : double.binade = 2 ^ 52 := rfl
  have hi : double.infRung = 2047 * 2 ^ 52 := rfl
  have hl : double.leastPlace = -1074 := rfl
  have h1 : r < 2 ^ 63 := by
    have : k * 2 ^ 52 ≤ 2000 * 2 ^ 52 := Nat.mul_le_mul_right _ hk2
    omega
  have h2 : r / 2 ^ 63 % 2 = 0 := by rw [Nat.div_eq_of_lt h1]
  have h3 : r % 2 ^ 63 = r := Nat.mod_eq_of_lt h1
  have h4 : r < 2047 * 2 ^ 52 := by
    have : k * 2 ^ 52 ≤ 2000 * 2 ^ 52 := Nat.mul_le_mul_right _ hk2
    omega
  unfold Format.read
  simp only [hs, hb, hi, hl, h2, h3]
  split
  · rename_i hlt
    exact ⟨r, -1074, rfl, by omega, by omega⟩
  · refine ⟨_, _, rfl, ?_, ?_⟩
    · have := Nat.mod_lt r (show 0 < 2 ^ 52 by decide); omega
    · have : r / 2 ^ 52 ≤ k := by
        apply Nat.le_of_lt_succ
        rw [Nat.div_lt_iff_lt_mul (by decide)]
        rw [Nat.succ_mul]; omega
      omega

theorem cut_even_le {n drop : Nat} (h : n ≠ 0) {B : Nat} (h1 : drop ≤ n.log2 + 2 → n < B * 2 ^ drop) (hB : 1 ≤ B) : Toward.even.cut false n drop ≤ B := by
  unfold Toward.cut
  simp only [Nat.one_shiftLeft]
  have hb : ∀ (c : Bool), c.toNat ≤ 1 := fun c => by cases c <;> decide
  rcases Nat.lt_or_ge (n.log2 + 2) drop with hd | hd
  · rw [Nat.min_eq_right (by omega)]
    have hn : n < 2 ^ (n.log2 + 2) := Nat.lt_of_lt_of_le ((Nat.log2_lt h).1 (Nat.lt_succ_self _)) (two_pow_mono (by omega))
    rw [Nat.div_eq_of_lt hn]
    have := hb (2 ^ (n.log2 + 2) < 2 * (n % 2 ^ (n.log2 + 2)) || 2 ^ (n.log2 + 2) == 2 * (n % 2 ^ (n.log2 + 2)) && 0 % 2 == 1)
    omega
  · rw [Nat.min_eq_left hd]
    have h2 : n / 2 ^ drop < B := by rw [Nat.div_lt_iff_lt_mul (Nat.two_pow_pos _)]; exact h1 hd
    have := hb (2 ^ drop < 2 * (n % 2 ^ drop) || 2 ^ drop == 2 * (n % 2 ^ drop) && n / 2 ^ drop % 2 == 1)
    omega

theorem nearest_le {mag : Nat} {place : Int} (hm : mag ≠ 0) {L : Int} (h : place + mag.log2 - 52 ≤ L) (hL : -1074 ≤ L) (hL2 : L ≤ 100) : double.nearest false mag place ≤ ((L + 1074).toNat + 2) * 2 ^ 52 := by
  have hb : double.binade = 2 ^ 52 := rfl
  have hl : double.leastPlace = -1074 := rfl
  have hf : (double.fractionBits : Int) = 52 := rfl
  unfold Format.nearest
  rw [if_neg hm]
  simp only [hb, hl, hf, Format.word, Bool.false_eq_true, if_false]
  generalize hlast : max (place + ↑mag.log2 - 52) (-1074) = last
  have hlL : last ≤ L := by omega
  have hl1 : place + mag.log2 - 52 ≤ last := by omega
  have hl2 : -1074 ≤ last := by omega
  have hmlt : mag < 2 ^ (mag.log2 + 1) := (Nat.log2_lt hm).1 (Nat.lt_succ_self _)
  have hkept : Toward.even.cut false (mag <<< (place - last).toNat) (last - place).toNat ≤ 2 ^ 53 := by
    rcases Int.le_total last place with hc | hc
    · have h0 : (last - place).toNat = 0 := by omega
      rw [h0]
      refine cut_even_le ?_ (fun _ => ?_) (by decide)
      · rw [Nat.shiftLeft_eq]
        exact Nat.mul_ne_zero hm (by have := Nat.two_pow_pos (place - last).toNat; omega)
      · rw [Nat.shiftLeft_eq, Nat.pow_zero, Nat.mul_one]
        have h1 : mag * 2 ^ (place - last).toNat < 2 ^ (mag.log2 + 1) * 2 ^ (place - last).toNat := Nat.mul_lt_mul_of_pos_right hmlt (Nat.two_pow_pos _)
        rw [← Nat.pow_add] at h1
        exact Nat.lt_of_lt_of_le h1 (two_pow_mono (by omega))
    · have h0 : (place - last).toNat = 0 := by omega
      rw [h0, Nat.shiftLeft_zero]
      refine cut_even_le hm (fun hd => ?_) (by decide)
      have h1 : 2 ^ (mag.log2 + 1) ≤ 2 ^ (53 + (last - place).toNat) := two_pow_mono (by omega)
      rw [Nat.pow_add 2 53] at h1
      omega
  refine Nat.le_trans (Nat.min_le_left _ _) ?_
  have h1 : (last - -1074).toNat ≤ (L + 1074).toNat := by omega
  have h2 := Nat.mul_le_mul_right (2 ^ 52) h1
  rw [Nat.add_mul]
  have h3 : (2 : Nat) ^ 53 = 2 * 2 ^ 52 := by decide
  rw [h3] at hkept
  exact Nat.add_le_add h2 hkept

theorem rootFrom_sq (n : Nat) : ∀ (todo root : Nat), root * root ≤ n → Datum.rootFrom n todo root * Datum.rootFrom n todo root ≤ n
  | 0, root, h => h
  | todo + 1, root, h => by
    simp only [Datum.rootFrom]
    refine rootFrom_sq n todo _ ?_
    split
    · assumption
    · exact h

/-- A root of a number that is below 2 ^ 57 is below 2 ^ 31 as it is cut to a whole number. -/
theorem sqrt_small {n : Nat} (hn : n < 2 ^ 56) : ∃ w r : Nat, FloatKind.f64.format.sqrt (FloatKind.f64.nearest (n : Int)) = some w ∧ (FloatKind.f64.decode w).toInt .zero = some (r : Int) ∧ r < 2 ^ 31 := by
  show ∃ w r : Nat, double.sqrt (double.write (.number (decide ((n : Int) < 0)) (n : Int).natAbs 0)) = some w ∧ (double.read w).toInt .zero = some (r : Int) ∧ r < 2 ^ 31
  have hneg : decide ((n : Int) < 0) = false := by simp
  rw [hneg, Int.natAbs_natCast]
  show ∃ w r : Nat, double.sqrt (double.nearest false n 0) = some w ∧ (double.read w).toInt .zero = some (r : Int) ∧ r < 2 ^ 31
  have hx : ∃ m e, double.read (double.nearest false n 0) = .number false m e ∧ m < 2 ^ 53 ∧ e ≤ 4 := by
    rcases Nat.eq_zero_or_pos n with h0 | h0
    · subst h0; exact ⟨0, -1074, rfl, by decide, by decide⟩
    · have hlog : n.log2 < 56 := (Nat.log2_lt (by omega)).2 hn
      have h1 := nearest_le (mag := n) (place := 0) (by omega) (L := 3) (by omega) (by omega) (by omega)
      obtain ⟨m, e, a, b, c⟩ := read_rung (k := 1079) h1 (by omega) (by omega)
      exact ⟨m, e, a, b, by omega⟩
  obtain ⟨m, e, hread, hm, he⟩ := hx
  have hroot : ∃ m2 e2, (Datum.number false m e).root (double.fractionBits + 2) = some (.number false m2 e2) ∧ ((m2 ≠ 0 ∧ m2 < 2 ^ 57 ∧ e2 ≤ -27) ∨ m2 = 0) := by
    simp only [Datum.root]
    rcases Nat.eq_zero_or_pos m with h0 | h0
    · rw [if_pos h0]; exact ⟨m, e, rfl, .inr h0⟩
    · rw [if_neg (by omega)]
      simp only [Bool.false_eq_true, if_false]
      have hfb : double.fractionBits = 52 := rfl
      simp only [hfb]
      have hlog : m.log2 < 53 := (Nat.log2_lt (by omega)).2 hm
      generalize hmore : 2 * (52 + 2) - m.log2 + ((e - ↑(2 * (52 + 2) - m.log2)) % 2).toNat = more
      have hmo1 : 108 - m.log2 ≤ more := by omega
      have hmo2 : more ≤ 109 - m.log2 := by omega
      have hN : m <<< more < 2 ^ 110 := by
        rw [Nat.shiftLeft_eq]
        have hmlt : m < 2 ^ (m.log2 + 1) := (Nat.log2_lt (by omega)).1 (Nat.lt_succ_self _)
        have h1 : m * 2 ^ more < 2 ^ (m.log2 + 1) * 2 ^ more := Nat.mul_lt_mul_of_pos_right hmlt (Nat.two_pow_pos _)
        rw [← Nat.pow_add] at h1
        exact Nat.lt_of_lt_of_le h1 (two_pow_mono (by omega))
      have hN1 : 1 ≤ m <<< more := by
        rw [Nat.shiftLeft_eq]; exact Nat.mul_pos h0 (Nat.two_pow_pos _)
      have hsq := rootFrom_sq (m <<< more) ((m <<< more).log2 / 2 + 1) 0 (by omega)
      generalize Datum.rootFrom (m <<< more) ((m <<< more).log2 / 2 + 1) 0 = whole at hsq
      have hw : whole < 2 ^ 55 := by
        rcases Nat.lt_or_ge whole (2 ^ 55) with h | h
        · exact h
        · have := Nat.mul_le_mul h h
          have e : (2 : Nat) ^ 55 * 2 ^ 55 = 2 ^ 110 := by decide
          omega
      have hb : ∀ (c : Bool), c.toNat ≤ 1 := fun c => by cases c <;> decide
      have h9 := hb (whole * whole != m <<< more)
      refine ⟨_, _, rfl, ?_⟩
      by_cases hz : 2 * whole + (whole * whole != m <<< more).toNat = 0
      · exact .inr hz
      · exact .inl ⟨hz, by omega, by omega⟩
  obtain ⟨m2, e2, hr2, hsm⟩ := hroot
  refine ⟨double.nearest false m2 e2, ?_⟩
  have hsq : double.sqrt (double.nearest false n 0) = some (double.nearest false m2 e2) := by
    unfold Format.sqrt
    rw [hread, hr2]; rfl
  have hfin : ∃ m3 e3, double.read (double.nearest false m2 e2) = .number false m3 e3 ∧ m3 < 2 ^ 53 ∧ e3 ≤ -22 := by
    rcases hsm with ⟨h1, h2, h3⟩ | h0
    · have hlog : m2.log2 < 57 := (Nat.log2_lt h1).2 h2
      have h4 := nearest_le (mag := m2) (place := e2) h1 (L := -23) (by omega) (by omega) (by omega)
      obtain ⟨m, e, a, b, c⟩ := read_rung (k := 1053) h4 (by omega) (by omega)
      exact ⟨m, e, a, b, by omega⟩
    · subst h0
      have h9 : double.nearest false 0 e2 = 0 := by simp [Format.nearest, Format.word]
      rw [h9]; exact ⟨0, -1074, rfl, by decide, by decide⟩
  obtain ⟨m3, e3, hr3, hm3, he3⟩ := hfin
  refine ⟨Toward.zero.cut false (m3 <<< e3.toNat) (-e3).toNat, hsq, ?_, ?_⟩
  · rw [hr3]
    simp [Datum.toInt, Datum.integral, signed]
  · have h0 : e3.toNat = 0 := by omega
    rw [h0, Nat.shiftLeft_zero]
    unfold Toward.cut
    simp only [Nat.one_shiftLeft, Bool.toNat_false, Nat.add_zero]
    rcases Nat.eq_zero_or_pos m3 with hz | hz
    · subst hz; simp
    · rcases Nat.lt_or_ge (m3.log2 + 2) (-e3).toNat with hd | hd
      · rw [Nat.min_eq_right (by omega)]
        have hn : m3 < 2 ^ (m3.log2 + 2) := Nat.lt_of_lt_of_le ((Nat.log2_lt (by omega)).1 (Nat.lt_succ_self _)) (two_pow_mono (by omega))
        rw [Nat.div_eq_of_lt hn]; decide
      · rw [Nat.min_eq_left hd, Nat.div_lt_iff_lt_mul (Nat.two_pow_pos _)]
        have h1 : 2 ^ 31 * 2 ^ 22 ≤ 2 ^ 31 * 2 ^ (-e3).toNat := Nat.mul_le_mul_left _ (two_pow_mono (by omega))
        have e : (2 : Nat) ^ 31 * 2 ^ 22 = 2 ^ 53 := by decide
        omega

end Go.Proofs.YtmolncgdehfejaaGreatDoor

/- The resolved form of outside of package where, and the closed facts on it. Printed by wip/gen.py. -/
namespace Go.Proofs.YtmolncgdehfejaaGreatDoor
open Go
set_option maxRecDepth 10000

/-- tintype/where.outside -/
def R278 : RC :=
  .seq (.reg [⟨.mv (.const (.bool false)), some 6, none⟩])
  (.seq (.reg [⟨.mv (.tmp 0), some 7, none⟩,
   ⟨.mv (.tmp 1), some 8, none⟩,
   ⟨.bin .lss (.tmp 7) (.tmp 8), some 9, none⟩,
   ⟨.mv (.tmp 9), some 10, none⟩,
   ⟨.mv (.tmp 0), some 11, some (10, false)⟩,
   ⟨.mv (.tmp 2), some 12, some (10, false)⟩,
   ⟨.bin .gtr (.tmp 11) (.tmp 12), some 13, some (10, false)⟩,
   ⟨.pick (.tmp 10) (.const (.bool true)) (.tmp 13), some 14, none⟩,
   ⟨.mv (.tmp 14), some 6, none⟩])
  (.ret))
theorem ok278 : FnOk Tryz.prog 278 15 R278 [.t 6] := ⟨_, _, rfl, rfl, rfl, by kernel_rfl, by kernel_rfl⟩

end Go.Proofs.YtmolncgdehfejaaGreatDoor

/- Contracts: the distance of two places. -/
namespace Go.Proofs.YtmolncgdehfejaaGreatDoor
open Go
set_option maxRecDepth 10000

def eastI (a b : Int) : Int := ((b - a).tmod 360000000 + 360000000).tmod 360000000
def shortI (a b : Int) : Int := if eastI a b ≥ 180000000 then eastI a b - 360000000 else eastI a b
def floorI (a b : Int) : Int := if a.tmod b < 0 then a.tdiv b - 1 else a.tdiv b
def cosI (lat : Int) : Int := ((3240000000000 - 4 * lat.tdiv 100 * lat.tdiv 100) * 1000000).tdiv (3240000000000 + lat.tdiv 100 * lat.tdiv 100)
def rootN : Nat → Nat
  | 0 => 0
  | n + 1 => if (rootN n + 1) * (rootN n + 1) ≤ n + 1 then rootN n + 1 else rootN n
def rootI (n : Int) : Int := rootN n.toNat
def xI (a b : Plc) : Int := (shortI a.lon b.lon * cosI (floorI (a.lat + b.lat) 2)).tdiv 1000000
def distI (a b : Plc) : Int := (rootI ((b.lat - a.lat) * (b.lat - a.lat) + xI a b * xI a b) * 111195).tdiv 1000000

/-! ### Numbers -/
theorem mulB {a b : Int} {A B : Nat} (ha : a.natAbs ≤ A) (hb : b.natAbs ≤ B) : (a * b).natAbs ≤ A * B := by
  rw [Int.natAbs_mul]; exact Nat.mul_le_mul ha hb
theorem eastI_b (a b : Int) : 0 ≤ eastI a b ∧ eastI a b < 360000000 := by
  have h1 : -360000000 < (b - a).tmod 360000000 := by have := Int.lt_tmod_of_pos (b - a) (show (0 : Int) < 360000000 by decide); omega
  unfold eastI
  rw [Int.tmod_eq_emod_of_nonneg (by omega)]
  omega
theorem shortI_b (a b : Int) : (shortI a b).natAbs ≤ 180000000 := by
  have := eastI_b a b
  unfold shortI; split <;> omega
theorem floorI_b {a : Int} (h : a.natAbs ≤ 180000000) : (floorI a 2).natAbs ≤ 90000000 := by
  have h1 : (a.tdiv 2).natAbs = a.natAbs / 2 := by rw [Int.natAbs_tdiv]; rfl
  have h2 := Int.tmod_add_mul_tdiv a 2
  unfold floorI; split <;> omega
theorem cosI_b {lat : Int} (h : lat.natAbs ≤ 90000000) : (cosI lat).natAbs ≤ 1000000 ∧ (lat.tdiv 100 * lat.tdiv 100).natAbs ≤ 810000000000 ∧ 0 ≤ lat.tdiv 100 * lat.tdiv 100 := by
  have h1 : (lat.tdiv 100).natAbs ≤ 900000 := by
    rw [Int.natAbs_tdiv]
    show lat.natAbs / 100 ≤ 900000
    omega
  have h2 := mulB h1 h1
  have h3 : 0 ≤ lat.tdiv 100 * lat.tdiv 100 := by
    rw [← Int.natAbs_mul_self' (lat.tdiv 100)]
    exact Int.mul_nonneg (Int.natCast_nonneg _) (Int.natCast_nonneg _)
  refine ⟨?_, by omega, h3⟩
  unfold cosI
  rw [Int.mul_assoc 4]
  generalize lat.tdiv 100 * lat.tdiv 100 = q at *
  rw [Int.natAbs_tdiv]
  refine Nat.div_le_of_le_mul ?_
  rw [Int.natAbs_mul]
  have e1 : (1000000 : Int).natAbs = 1000000 := rfl
  rw [e1]
  exact Nat.mul_le_mul_right _ (by omega)
theorem rootN_spec : ∀ n : Nat, rootN n * rootN n ≤ n ∧ n < (rootN n + 1) * (rootN n + 1)
  | 0 => ⟨Nat.le_refl _, by decide⟩
  | n + 1 => by
    obtain ⟨h1, h2⟩ := rootN_spec n
    rw [rootN]
    split
    · rename_i h
      refine ⟨h, ?_⟩
      have e : (rootN n + 1 + 1) * (rootN n + 1 + 1) = (rootN n + 1) * (rootN n + 1) + 2 * (rootN n + 1) + 1 := by
        rw [Nat.add_mul, Nat.mul_add]; omega
      omega
    · rename_i h
      exact ⟨by omega, by omega⟩
theorem rootN_unique {n r : Nat} (h1 : r * r ≤ n) (h2 : n < (r + 1) * (r + 1)) : r = rootN n := by
  obtain ⟨k1, k2⟩ := rootN_spec n
  rcases Nat.lt_trichotomy r (rootN n) with h | h | h
  · have := Nat.mul_le_mul (show r + 1 ≤ rootN n by omega) (show r + 1 ≤ rootN n by omega); omega
  · exact h
  · have := Nat.mul_le_mul (show rootN n + 1 ≤ r by omega) (show rootN n + 1 ≤ r by omega); omega

/-! ### Contracts -/
theorem u3i : Tryz.prog.underlying 3 = some (.int .i64) := by kernel_rfl
theorem u289 : Tryz.prog.underlying 289 = some (.float .f64) := by kernel_rfl
theorem fn279 : ∃ fn, Tryz.prog.funcs[279]? = some fn ∧ (fn.name == "runtime.NumGoroutine") = false ∧ fn.body.isNone = true ∧ Extern.findNext fn = none ∧ Extern.find fn = some Extern.MathSqrt.sqrt := ⟨_, rfl, by kernel_rfl, by kernel_rfl, by kernel_rfl, by kernel_rfl⟩
theorem sqrt_ct (x w : Nat) (g : Gh) (h : FloatKind.f64.format.sqrt x = some w) : Ct Tryz.prog 252 [.float .f64 x] g (fun r g' => r = .float .f64 w ∧ g' = g) := by
  obtain ⟨fn, h1, h2, h3, h4, h5⟩ := fn279
  refine enter ok252 (by simp) fun W => ?_
  refine vc_extern 100 (args := [.tmp 3]) (v := .float .f64 w) rfl rfl rfl rfl rfl h1 h2 h3 h4 h5 (fun W => ?_) ?_
  · have e : Extern.MathSqrt.sqrt #[.float .f64 x] = (match FloatKind.f64.format.sqrt x with | some r => pure (.float .f64 r) | none => do pure (.float .f64 (← choose (.nanBits .f64 x x)))) := rfl
    show (Extern.MathSqrt.sqrt #[.float .f64 x]).run _ W = _
    rw [e, h]; rfl
  · exact vc_ret0 100 rfl rfl ⟨rfl, rfl⟩
theorem root_ct (n : Nat) (g : Gh) (hn : n < 2 ^ 56) : Ct Tryz.prog 218 [.int .i64 ((n : Nat) : Int)] g (fun r g' => r = .int .i64 ((rootN n : Nat) : Int) ∧ g' = g) := by
  obtain ⟨w, r0, hw, hr, hr31⟩ := sqrt_small hn
  have hn' : n < 72057594037927936 := hn
  have hr' : r0 < 2147483648 := hr31
  refine enter ok218 (by simp) fun W => ?_
  refine vc_i2f 100 rfl rfl rfl u3i u289 ?_
  refine vc_call 100 rfl rfl rfl (sqrt_ct _ w _ hw) ?_; rintro _ _ - ⟨rfl, rfl⟩
  refine vc_f2i 100 (r0 : Int) rfl rfl rfl u289 u3i hr (by show (-9223372036854775808 : Int) ≤ _; omega) (by show _ ≤ (9223372036854775807 : Int); omega) ?_
  refine vc_loop 100 rfl [0, 3] (fun m vs bs g' => ∃ r : Nat, m = r ∧ r < 2147483648 ∧ vs = [.c (.v (.int .i64 ((n : Nat) : Int))), .c (.v (.int .i64 ((r : Nat) : Int)))] ∧ bs = [] ∧ g' = _) r0 ⟨r0, rfl, hr', rfl, rfl, rfl⟩ ?_
  rintro m vs bs' g' ⟨r, hmr, hr1, rfl, rfl, rfl⟩
  have hsq : r * r ≤ 2147483648 * 2147483648 := Nat.mul_le_mul (by omega) (by omega)
  refine vc_arith 100 rfl rfl rfl rfl rfl ((r * r : Nat) : Int) (wr (by simp) (by omega) (by omega)) ?_
  refine vc_if 100 rfl rfl rfl (fun h => ?_) (fun h => ?_)
  · have hgt : n < r * r := by have := of_decide_eq_true h; omega
    have h0 : 0 < r := by
      rcases Nat.eq_zero_or_pos r with e | e
      · subst e; omega
      · exact e
    refine vc_arith 100 rfl rfl rfl rfl rfl ((r - 1 : Nat) : Int) (wr (by omega) (by omega) (by omega)) ?_
    exact vc_fin 100 rfl ⟨r - 1, [], by omega, rfl, r - 1, rfl, by omega, rfl, rfl, rfl⟩
  have hle : r * r ≤ n := by have := of_decide_eq_false h; omega
  refine vc_loop 100 rfl [0, 3] (fun m vs bs g2 => ∃ r : Nat, m = n - r ∧ r * r ≤ n ∧ vs = [.c (.v (.int .i64 ((n : Nat) : Int))), .c (.v (.int .i64 ((r : Nat) : Int)))] ∧ bs = [] ∧ g2 = _) (n - r) ⟨r, rfl, hle, rfl, rfl, rfl⟩ ?_
  clear hle h hsq hr1
  rintro m vs bs' g2 ⟨r, rfl, hle, rfl, rfl, rfl⟩
  have hrb : r < 268435457 := by
    rcases Nat.lt_or_ge r 268435457 with h | h
    · exact h
    · have := Nat.mul_le_mul h h; omega
  have hsq : (r + 1) * (r + 1) ≤ 268435457 * 268435457 := Nat.mul_le_mul (by omega) (by omega)
  refine vc_arith 100 rfl rfl rfl rfl rfl ((r + 1 : Nat) : Int) (wr (by omega) (by omega) (by omega)) ?_
  refine vc_arith 100 rfl rfl rfl rfl rfl ((r + 1 : Nat) : Int) (wr (by omega) (by omega) (by omega)) ?_
  refine vc_arith 100 rfl rfl rfl rfl rfl (((r + 1) * (r + 1) : Nat) : Int) (wr (by simp) (by omega) (by omega)) ?_
  refine vc_if 100 rfl rfl rfl (fun h => ?_) (fun h => ?_)
  · have hle2 : (r + 1) * (r + 1) ≤ n := by have := of_decide_eq_true h; omega
    have : r + 1 ≤ (r + 1) * (r + 1) := Nat.le_mul_self _
    refine vc_arith 100 rfl rfl rfl rfl rfl ((r + 1 : Nat) : Int) (wr (by omega) (by omega) (by omega)) ?_
    exact vc_fin 100 rfl ⟨n - (r + 1), [], by omega, rfl, r + 1, rfl, hle2, rfl, rfl, rfl⟩
  · have hgt : n < (r + 1) * (r + 1) := by have := of_decide_eq_false h; omega
    refine vc_ret0 100 rfl rfl ⟨?_, rfl⟩
    rw [← rootN_unique hle hgt]; rfl
theorem woutside_ct (n lo hi : Int) (g : Gh) : Ct Tryz.prog 278 [.int .i64 n, .int .i64 lo, .int .i64 hi] g (fun v g' => v = .bool (outsideB n lo hi) ∧ g' = g) := by
  refine enter ok278 (by simp) fun W => ?_
  refine vc_if 100 rfl rfl rfl (fun h => ?_) (fun h => ?_)
  · refine vc_ret0 100 rfl rfl ⟨?_, rfl⟩
    simp [tup, outsideB, h]
  · refine vc_ret0 100 rfl rfl ⟨?_, rfl⟩
    simp [tup, outsideB, h]
theorem isLat_ct (n : Int) (g : Gh) : Ct Tryz.prog 249 [.int .i64 n] g (fun v g' => v = .bool (!outsideB n (-90000000) 90000000) ∧ g' = g) := by
  refine enter ok249 (by simp) fun W => ?_
  refine vc_call 100 rfl rfl rfl (woutside_ct _ _ _ _) ?_; rintro _ _ - ⟨rfl, rfl⟩
  exact vc_ret0 100 rfl rfl ⟨rfl, rfl⟩
theorem isLon_ct (n : Int) (g : Gh) : Ct Tryz.prog 250 [.int .i64 n] g (fun v g' => v = .bool (!outsideB n (-180000000) 179999999) ∧ g' = g) := by
  refine enter ok250 (by simp) fun W => ?_
  refine vc_call 100 rfl rfl rfl (woutside_ct _ _ _ _) ?_; rintro _ _ - ⟨rfl, rfl⟩
  exact vc_ret0 100 rfl rfl ⟨rfl, rfl⟩
theorem place_parts {x : Plc} (h : checkPlaceI x = 0) : outsideB x.lat (-90000000) 90000000 = false ∧ outsideB x.lon (-180000000) 179999999 = false := by
  unfold checkPlaceI at h
  split at h
  · cases h
  · rename_i hn
    simpa [Bool.or_eq_true, not_or] using hn
theorem whereCheck_ct (x : Plc) (g : Gh) (h : checkPlaceI x = 0) : Ct Tryz.prog 214 [.agg #[.int .i64 x.lat, .int .i64 x.lon]] g (fun r g' => r = .int .i64 0 ∧ g' = g) := by
  obtain ⟨h1, h2⟩ := place_parts h
  refine enter ok214 (by simp) fun W => ?_
  refine vc_box 100 0 rfl rfl rfl rfl fun β => ?_
  refine vc_call 100 rfl rfl rfl (isLat_ct _ _) ?_; rintro _ _ - ⟨rfl, rfl⟩
  rw [h1]
  refine vc_if 100 rfl rfl rfl (fun h => by cases h) (fun _ => ?_)
  refine vc_call 100 rfl rfl rfl (isLon_ct _ _) ?_; rintro _ _ - ⟨rfl, rfl⟩
  rw [h2]
  refine vc_if 100 rfl rfl rfl (fun h => by cases h) (fun _ => ?_)
  exact vc_ret0 100 rfl rfl ⟨rfl, rfl⟩
theorem whereChecks_ct (v : Value) (l : List Plc) (g : Gh) (hv : Sl g 2 PlcR v l) (hl : ∀ x ∈ l, checkPlaceI x = 0) : Ct Tryz.prog 179 [v] g (fun r g' => r = .int .i64 0 ∧ g' = g) := by
  obtain ⟨A, c, rfl, hlen, hat⟩ := hv
  refine enter ok179 (by simp) fun W => ?_
  refine vc_loop 100 rfl [6, 7, 8] (fun m vs bs g' => ∃ k : Nat, k ≤ l.length ∧ m = l.length - k ∧ vs = [.c (.v (.slice A l.length c)), .c (.v (.int .i64 (l.length : Int))), .c (.v (.int .i64 (k : Int)))] ∧ bs = [] ∧ g' = g) l.length ⟨0, Nat.zero_le _, rfl, rfl, rfl, rfl⟩ ?_
  rintro m vs bs' g' ⟨k, hk, rfl, rfl, rfl, rfl⟩
  refine vc_if 100 rfl rfl rfl (fun h => ?_) (fun h => ?_)
  · have hlt : k < l.length := by have := of_decide_eq_true h; omega
    obtain ⟨β', off, cs, rfl, hcs, hrow, ⟨rfl, hx⟩⟩ := hat k l[k] (nth_get hlt)
    refine vc_ia 100 rfl rfl rfl rfl (by omega) (by omega) ?_
    refine vc_ldn 100 _ rfl rfl rfl rfl hrow ?_
    refine vc_alloc 100 0 rfl rfl rfl fun β1 => ?_
    refine vc_call 100 rfl rfl rfl (whereCheck_ct l[k] _ (hl _ (List.getElem_mem hlt))) ?_; rintro _ _ - ⟨rfl, rfl⟩
    refine vc_if 100 rfl rfl rfl (fun h => by cases h) (fun _ => ?_)
    refine vc_arith 100 rfl rfl rfl rfl rfl ((k + 1 : Nat) : Int) (wr (by omega) (by omega) (by omega)) ?_
    exact vc_fin 100 rfl ⟨l.length - (k + 1), [], by omega, rfl, k + 1, by omega, rfl, rfl, rfl, rfl⟩
  · exact vc_ret0 100 rfl rfl ⟨rfl, rfl⟩

theorem east_ct (a b : Int) (g : Gh) (ha : a.natAbs ≤ 180000000) (hb : b.natAbs ≤ 180000000) : Ct Tryz.prog 251 [.int .i64 a, .int .i64 b] g (fun r g' => r = .int .i64 (eastI a b) ∧ g' = g) := by
  have h1 : -360000000 < (b - a).tmod 360000000 := by have := Int.lt_tmod_of_pos (b - a) (show (0 : Int) < 360000000 by decide); omega
  have h2 : (b - a).tmod 360000000 < 360000000 := Int.tmod_lt_of_pos _ (by decide)
  have h3 := eastI_b a b
  refine enter ok251 (by simp) fun W => ?_
  refine vc_arith 100 rfl rfl rfl rfl rfl (b - a) (wr rfl (by omega) (by omega)) ?_
  refine vc_quot 100 rfl rfl rfl rfl rfl (by omega) ((b - a).tmod 360000000) rfl ?_
  refine vc_arith 100 rfl rfl rfl rfl rfl ((b - a).tmod 360000000 + 360000000) (wr rfl (by omega) (by omega)) ?_
  refine vc_quot 100 rfl rfl rfl rfl rfl (by omega) (eastI a b) rfl ?_
  exact vc_ret0 100 rfl rfl ⟨rfl, rfl⟩
theorem short_ct (a b : Int) (g : Gh) (ha : a.natAbs ≤ 180000000) (hb : b.natAbs ≤ 180000000) : Ct Tryz.prog 215 [.int .i64 a, .int .i64 b] g (fun r g' => r = .int .i64 (shortI a b) ∧ g' = g) := by
  have h3 := eastI_b a b
  refine enter ok215 (by simp) fun W => ?_
  refine vc_call 100 rfl rfl rfl (east_ct a b _ ha hb) ?_; rintro _ _ - ⟨rfl, rfl⟩
  refine vc_if 100 rfl rfl rfl (fun h => ?_) (fun h => ?_)
  · refine vc_arith 100 rfl rfl rfl rfl rfl (eastI a b - 360000000) (wr rfl (by omega) (by omega)) ?_
    refine vc_ret0 100 rfl rfl ⟨?_, rfl⟩
    rw [shortI, if_pos (of_decide_eq_true h)]; rfl
  · refine vc_ret0 100 rfl rfl ⟨?_, rfl⟩
    rw [shortI, if_neg (of_decide_eq_false h)]; rfl
theorem floor_ct (a : Int) (g : Gh) (ha : a.natAbs ≤ 180000000) : Ct Tryz.prog 217 [.int .i64 a, .int .i64 2] g (fun r g' => r = .int .i64 (floorI a 2) ∧ g' = g) := by
  have h1 : (a.tdiv 2).natAbs = a.natAbs / 2 := by rw [Int.natAbs_tdiv]; rfl
  refine enter ok217 (by simp) fun W => ?_
  refine vc_quot 100 rfl rfl rfl rfl rfl (by omega) (a.tdiv 2) (wr rfl (by omega) (by omega)) ?_
  refine vc_quot 100 rfl rfl rfl rfl rfl (by omega) (a.tmod 2) rfl ?_
  refine vc_if 100 rfl rfl rfl (fun h => ?_) (fun h => ?_)
  · refine vc_arith 100 rfl rfl rfl rfl rfl (a.tdiv 2 - 1) (wr rfl (by omega) (by omega)) ?_
    refine vc_ret0 100 rfl rfl ⟨?_, rfl⟩
    rw [floorI, if_pos (of_decide_eq_true h)]; rfl
  · refine vc_ret0 100 rfl rfl ⟨?_, rfl⟩
    rw [floorI, if_neg (of_decide_eq_false h)]; rfl
theorem cos_ct (a : Int) (g : Gh) (ha : a.natAbs ≤ 90000000) : Ct Tryz.prog 216 [.int .i64 a] g (fun r g' => r = .int .i64 (cosI a) ∧ g' = g) := by
  obtain ⟨h1, h2, h3⟩ := cosI_b ha
  have h4 : (a.tdiv 100).natAbs ≤ 900000 := by
    rw [Int.natAbs_tdiv]
    show a.natAbs / 100 ≤ 900000
    omega
  have h5 : 4 * a.tdiv 100 * a.tdiv 100 = 4 * (a.tdiv 100 * a.tdiv 100) := Int.mul_assoc ..
  refine enter ok216 (by simp) fun W => ?_
  refine vc_quot 100 rfl rfl rfl rfl rfl (by omega) (a.tdiv 100) (wr rfl (by omega) (by omega)) ?_
  refine vc_arith 100 rfl rfl rfl rfl rfl (4 * a.tdiv 100) (wr rfl (by omega) (by omega)) ?_
  refine vc_arith 100 rfl rfl rfl rfl rfl (4 * a.tdiv 100 * a.tdiv 100) (wr rfl (by omega) (by omega)) ?_
  refine vc_arith 100 rfl rfl rfl rfl rfl (3240000000000 - 4 * a.tdiv 100 * a.tdiv 100) (wr rfl (by omega) (by omega)) ?_
  refine vc_arith 100 rfl rfl rfl rfl rfl ((3240000000000 - 4 * a.tdiv 100 * a.tdiv 100) * 1000000) (wr rfl (by omega) (by omega)) ?_
  refine vc_arith 100 rfl rfl rfl rfl rfl (a.tdiv 100 * a.tdiv 100) (wr rfl (by omega) (by omega)) ?_
  refine vc_arith 100 rfl rfl rfl rfl rfl (3240000000000 + a.tdiv 100 * a.tdiv 100) (wr rfl (by omega) (by omega)) ?_
  refine vc_quot 100 rfl rfl rfl rfl rfl (by omega) (cosI a) (wr rfl (by omega) (by omega)) ?_
  exact vc_ret0 100 rfl rfl ⟨rfl, rfl⟩
theorem dist_ct (a b : Plc) (g : Gh) (ha : checkPlaceI a = 0) (hb : checkPlaceI b = 0) : Ct Tryz.prog 180 [.agg #[.int .i64 a.lat, .int .i64 a.lon], .agg #[.int .i64 b.lat, .int .i64 b.lon]] g (fun r g' => r = .int .i64 (distI a b) ∧ g' = g) := by
  obtain ⟨a1, a2⟩ := place_parts ha
  obtain ⟨b1, b2⟩ := place_parts hb
  have a1 := outF a1; have a2 := outF a2; have b1 := outF b1; have b2 := outF b2
  have hfl := floorI_b (a := a.lat + b.lat) (by omega)
  have hco := (cosI_b hfl).1
  have hsh := shortI_b a.lon b.lon
  have hm := mulB hsh hco
  have hx : (xI a b).natAbs ≤ 180000000 := by
    unfold xI
    rw [Int.natAbs_tdiv]
    show _ / 1000000 ≤ 180000000
    omega
  have hx2 := mulB hx hx
  have hy : (b.lat - a.lat).natAbs ≤ 180000000 := by omega
  have hy2 := mulB hy hy
  have hx0 : 0 ≤ xI a b * xI a b := by
    rw [← Int.natAbs_mul_self' (xI a b)]; exact Int.mul_nonneg (Int.natCast_nonneg _) (Int.natCast_nonneg _)
  have hy0 : 0 ≤ (b.lat - a.lat) * (b.lat - a.lat) := by
    rw [← Int.natAbs_mul_self' (b.lat - a.lat)]; exact Int.mul_nonneg (Int.natCast_nonneg _) (Int.natCast_nonneg _)
  obtain ⟨n, hn⟩ : ∃ n : Nat, (b.lat - a.lat) * (b.lat - a.lat) + xI a b * xI a b = ((n : Nat) : Int) := ⟨((b.lat - a.lat) * (b.lat - a.lat) + xI a b * xI a b).toNat, by omega⟩
  have hn56 : n < 2 ^ 56 := by show n < 72057594037927936; omega
  have hrt : (rootN n) < 268435457 := by
    rcases Nat.lt_or_ge (rootN n) 268435457 with h | h
    · exact h
    · have h1 := Nat.mul_le_mul h h; have h2 := (rootN_spec n).1
      have h3 : n < 72057594037927936 := hn56
      omega
  have hd : distI a b = (((rootN n : Nat) : Int) * 111195).tdiv 1000000 := by rw [distI, hn]; rfl
  refine enter ok180 (by simp) fun W => ?_
  refine vc_box 100 0 rfl rfl rfl rfl fun β => ?_
  refine vc_box 100 1 rfl rfl rfl rfl fun β1 => ?_
  refine vc_arith 100 rfl rfl rfl rfl rfl (b.lat - a.lat) (wr rfl (by omega) (by omega)) ?_
  refine vc_drawF mix 100 rfl [4, 9, 10, 11, 12, 13] (fun i => match i with | 4 => .c (.v (.int .i64 (shortI a.lon b.lon))) | 9 => .c (.v (.int .i64 (a.lat + b.lat))) | 10 => .c (.v (.int .i64 (floorI (a.lat + b.lat) 2))) | 11 => .c (.v (.int .i64 (cosI (floorI (a.lat + b.lat) 2)))) | 12 => .c (.v (.int .i64 (shortI a.lon b.lon * cosI (floorI (a.lat + b.lat) 2)))) | _ => .c (.v (.int .i64 (xI a b)))) rfl rfl ⟨?_, ?_, ?_, ?_, ?_, ?_, trivial⟩ ?_
  · refine vc_call 100 rfl rfl rfl (short_ct _ _ _ (by omega) (by omega)) ?_; rintro _ _ - ⟨rfl, rfl⟩
    exact vc_fin 100 rfl ⟨rfl, rfl, fun d hd => by injection hd with hd; subst hd; rfl⟩
  · exact vc_arith 100 rfl rfl rfl rfl rfl (a.lat + b.lat) (wr rfl (by omega) (by omega)) (vc_fin 100 rfl ⟨rfl, rfl, fun d hd => by injection hd with hd; subst hd; rfl⟩)
  · refine vc_call 100 rfl rfl rfl (floor_ct _ _ (by omega)) ?_; rintro _ _ - ⟨rfl, rfl⟩
    exact vc_fin 100 rfl ⟨rfl, rfl, fun d hd => by injection hd with hd; subst hd; rfl⟩
  · refine vc_call 100 rfl rfl rfl (cos_ct _ _ hfl) ?_; rintro _ _ - ⟨rfl, rfl⟩
    exact vc_fin 100 rfl ⟨rfl, rfl, fun d hd => by injection hd with hd; subst hd; rfl⟩
  · exact vc_arith 100 rfl rfl rfl rfl rfl (shortI a.lon b.lon * cosI (floorI (a.lat + b.lat) 2)) (wr rfl (by omega) (by omega)) (vc_fin 100 rfl ⟨rfl, rfl, fun d hd => by injection hd with hd; subst hd; rfl⟩)
  · exact vc_quot 100 rfl rfl rfl rfl rfl (by omega) (xI a b) (wr rfl (by omega) (by omega)) (vc_fin 100 rfl ⟨rfl, rfl, fun d hd => by injection hd with hd; subst hd; rfl⟩)
  refine vc_arith 100 rfl rfl rfl rfl rfl ((b.lat - a.lat) * (b.lat - a.lat)) (wr rfl (by omega) (by omega)) ?_
  refine vc_arith 100 rfl rfl rfl rfl rfl (xI a b * xI a b) (wr rfl (by omega) (by omega)) ?_
  refine vc_arith 100 rfl rfl rfl rfl rfl ((n : Nat) : Int) (wr hn (by omega) (by omega)) ?_
  refine vc_call 100 rfl rfl rfl (root_ct n _ hn56) ?_; rintro _ _ - ⟨rfl, rfl⟩
  refine vc_arith 100 rfl rfl rfl rfl rfl (((rootN n : Nat) : Int) * 111195) (wr rfl (by omega) (by omega)) ?_
  have hdb : (distI a b).natAbs ≤ 40000000 := by
    rw [hd, Int.natAbs_tdiv]
    show _ / 1000000 ≤ 40000000
    omega
  refine vc_quot 100 rfl rfl rfl rfl rfl (by omega) (distI a b) (wr hd.symm (by omega) (by omega)) ?_
  exact vc_ret0 100 rfl rfl ⟨rfl, rfl⟩
theorem twoPlaces {g : Gh} {β : Nat} {a b : Plc} (hrow : Row g β 0 [.int .i64 a.lat, .int .i64 a.lon, .int .i64 b.lat, .int .i64 b.lon]) (ha : I64 a.lat ∧ I64 a.lon) (hb : I64 b.lat ∧ I64 b.lon) : Sl g 2 PlcR (.slice (some ⟨β, 0, none⟩) 2 2) [a, b] := by
  refine ⟨_, 2, rfl, by simp, fun i x hx => ?_⟩
  match i, hx with
  | 0, hx =>
    simp only [nth, Option.some.injEq] at hx; subst hx
    exact ⟨β, 0, [.int .i64 a.lat, .int .i64 a.lon], rfl, rfl, fun j u hj => by
      match j, hj with
      | 0, hj => simp only [nth, Option.some.injEq] at hj; subst hj; exact hrow 0 _ rfl
      | 1, hj => simp only [nth, Option.some.injEq] at hj; subst hj; exact hrow 1 _ rfl
      | j + 2, hj => simp [nth] at hj, rfl, ha.1, ha.2⟩
  | 1, hx =>
    simp only [nth, Option.some.injEq] at hx; subst hx
    exact ⟨β, 0, [.int .i64 b.lat, .int .i64 b.lon], rfl, rfl, fun j u hj => by
      match j, hj with
      | 0, hj => simp only [nth, Option.some.injEq] at hj; subst hj; exact hrow 2 _ rfl
      | 1, hj => simp only [nth, Option.some.injEq] at hj; subst hj; exact hrow 3 _ rfl
      | j + 2, hj => simp [nth] at hj, rfl, hb.1, hb.2⟩
  | i + 2, hx => simp [nth] at hx
theorem distance_ct (a b : Plc) (g : Gh) (ha : checkPlaceI a = 0) (hb : checkPlaceI b = 0) : Ct Tryz.prog 145 [.agg #[.int .i64 a.lat, .int .i64 a.lon], .agg #[.int .i64 b.lat, .int .i64 b.lon]] g (fun r _ => r = .tuple #[.int .i64 (distI a b), .int .i64 0]) := by
  obtain ⟨a1, a2⟩ := place_parts ha
  obtain ⟨b1, b2⟩ := place_parts hb
  have a1 := outF a1; have a2 := outF a2; have b1 := outF b1; have b2 := outF b2
  refine enter ok145 (by simp) fun W => ?_
  refine vc_box 100 0 rfl rfl rfl rfl fun β => ?_
  refine vc_box 100 1 rfl rfl rfl rfl fun β1 => ?_
  refine vc_bslice 100 2 rfl rfl rfl rfl rfl fun β2 => ?_
  refine vc_pub 0 2 rfl rfl rfl _ rfl fun g1 hle1 hrow1 => ?_
  refine vc_call 100 rfl rfl rfl (whereChecks_ct _ [a, b] _ (twoPlaces hrow1 ⟨by unfold I64; omega, by unfold I64; omega⟩ ⟨by unfold I64; omega, by unfold I64; omega⟩) (by
    intro x hx
    simp only [List.mem_cons, List.not_mem_nil, or_false] at hx
    rcases hx with rfl | rfl
    · exact ha
    · exact hb)) ?_
  rintro _ g2 - ⟨rfl, rfl⟩
  refine vc_if 100 rfl rfl rfl (fun h => by cases h) (fun _ => ?_)
  refine vc_call 100 rfl rfl rfl (dist_ct a b _ ha hb) ?_; rintro _ g3 - ⟨rfl, rfl⟩
  exact vc_ret0 100 rfl rfl rfl

/-- What is handed back does not hang on what else stays. -/
theorem Ct.same {P : Program} {f : Nat} {vals : List Value} {g : Gh} {R : Value → Prop} (h : Ct P f vals g (fun r _ => R r)) : Ct P f vals g (fun r g' => R r ∧ g' = g) :=
  fun W hW => (h W hW).mono fun _ _ ⟨v, _, a, b, c, _, e, r⟩ => ⟨v, g, a, b, Le.refl g, fun _ _ _ h => .inl h, fun j o u hu => e j o u (c j o u hu), r, rfl⟩

theorem asksNear_ct {g : Gh} {β : Nat} {c : Cnd} (x a : Plc) (hc : CndAt g β c) (hpl : c.pl = [a]) (hx : checkPlaceI x = 0) (ha : checkPlaceI a = 0) :
    Ct Tryz.prog 144 [.agg #[.int .i64 x.lat, .int .i64 x.lon], .pointer (some ⟨β, 0, none⟩)] g (fun r g' => r = .bool (decide (distI x a ≤ c.low)) ∧ g' = g) := by
  obtain ⟨op, kids, text, low, high, pl⟩ := c
  simp only [Cnd.pl] at hpl; subst hpl
  obtain ⟨cells, hrow, hcr⟩ := hc
  obtain ⟨B1, d1, B2, d2, rfl, _, hp, _⟩ := hcr.parts
  obtain ⟨A, cc, e, hlen, hat⟩ := hp
  injection e with e1 e2 e3; subst e1 e3
  obtain ⟨β', off, cs, rfl, hcs, hrow', ⟨rfl, _⟩⟩ := hat 0 a rfl
  refine enter ok144 (by simp) fun W => ?_
  refine vc_box 100 0 rfl rfl rfl rfl fun β1 => ?_
  refine vc_drawF mix 100 rfl [2, 3, 4, 5] (fun i => match i with | 2 => .c (.v (.slice (some ⟨β', off, none⟩) 1 d2)) | 3 => .c (.v (.pointer (some ⟨β', off + 0 * 2, none⟩))) | 4 => .g [.v (.int .i64 a.lat), .v (.int .i64 a.lon)] | _ => .c (.v (.tuple #[.int .i64 (distI x a), .int .i64 0]))) rfl rfl ⟨?_, ?_, ?_, ?_, trivial⟩ ?_
  · exact vc_ld1 100 rfl rfl rfl (v := .slice (some ⟨β', off, none⟩) 1 d2) (by simpa using hrow 5 _ rfl) (vc_fin 100 rfl ⟨rfl, rfl, fun d hd => by injection hd with hd; subst hd; rfl⟩)
  · exact vc_ia 100 rfl rfl rfl rfl (by omega) (by simp) (vc_fin 100 rfl ⟨rfl, rfl, fun d hd => by injection hd with hd; subst hd; rfl⟩)
  · exact vc_ldn 100 [.int .i64 a.lat, .int .i64 a.lon] rfl rfl rfl rfl hrow' (vc_fin 100 rfl ⟨rfl, rfl, fun d hd => by injection hd with hd; subst hd; rfl⟩)
  · refine vc_call 100 rfl rfl rfl (distance_ct x a _ hx ha).same ?_; rintro _ g2 - ⟨rfl, rfl⟩
    exact vc_fin 100 rfl ⟨rfl, rfl, fun d hd => by injection hd with hd; subst hd; rfl⟩
  refine vc_ld1 100 rfl rfl rfl (v := .int .i64 low) (by simpa using hrow 3 _ rfl) ?_
  exact vc_ret0 100 rfl rfl ⟨rfl, rfl⟩

end Go.Proofs.YtmolncgdehfejaaGreatDoor

/- Contracts: the function value that a condition without parts asks with. -/
namespace Go.Proofs.YtmolncgdehfejaaGreatDoor
open Go
set_option maxRecDepth 10000

def IsFn (f : Nat) : Prop := ∃ fn, Tryz.prog.funcs[f]? = some fn ∧ fn.body.isSome = true ∧ (fn.name == "runtime.NumGoroutine") = false
theorem fn127 : IsFn 127 := ⟨_, rfl, rfl, by kernel_rfl⟩
theorem fn130 : IsFn 130 := ⟨_, rfl, rfl, by kernel_rfl⟩
theorem fn132 : IsFn 132 := ⟨_, rfl, rfl, by kernel_rfl⟩
theorem fn134 : IsFn 134 := ⟨_, rfl, rfl, by kernel_rfl⟩
theorem fn135 : IsFn 135 := ⟨_, rfl, rfl, by kernel_rfl⟩
theorem fn137 : IsFn 137 := ⟨_, rfl, rfl, by kernel_rfl⟩
theorem fn139 : IsFn 139 := ⟨_, rfl, rfl, by kernel_rfl⟩
theorem fn140 : IsFn 140 := ⟨_, rfl, rfl, by kernel_rfl⟩
theorem fn141 : IsFn 141 := ⟨_, rfl, rfl, by kernel_rfl⟩
theorem fn143 : IsFn 143 := ⟨_, rfl, rfl, by kernel_rfl⟩
theorem fn144 : IsFn 144 := ⟨_, rfl, rfl, by kernel_rfl⟩
theorem fn146 : IsFn 146 := ⟨_, rfl, rfl, by kernel_rfl⟩
theorem fn148 : IsFn 148 := ⟨_, rfl, rfl, by kernel_rfl⟩
theorem fn178 : IsFn 178 := ⟨_, rfl, rfl, by kernel_rfl⟩

/-- A function value that answers a question about photos. -/
def AskOk (g : Gh) (fv : Value) (h : Pho → Bool) : Prop :=
  ∃ f cap, fv = .func (.func f) #[] (List.toArray cap) ∧ IsFn f ∧ ∀ g', Le g g' → ∀ pv p, PhoV g' pv p → PhoN p → Ct Tryz.prog f ([] ++ [pv] ++ cap) g' (fun r g'' => r = .bool (h p) ∧ g'' = g')
theorem AskOk.mono {g g' : Gh} {fv : Value} {h : Pho → Bool} (a : AskOk g fv h) (hl : Le g g') : AskOk g' fv h := by
  obtain ⟨f, cap, h1, h2, h3⟩ := a
  exact ⟨f, cap, h1, h2, fun g2 hl2 => h3 g2 (Le.trans hl hl2)⟩

def plcAt (l : List Plc) (i : Nat) : Plc := match nth l i with | some x => x | none => ⟨0, 0⟩
def asksB : Cnd → Pho → Bool
  | .mk op _ text low high pl, p =>
    if op = 4 then hasS p.tags text else if op = 5 then Lib.contains (lowerL p.caption.data.toList) (lowerS text).data.toList else if op = 6 then hasI p.people low
    else if op = 7 then !outsideB p.stars low high else if op = 8 then decide (p.moment ≥ 0) && !outsideB (localI p) low high
    else if op = 9 then decide (higherI p > 0) else if op = 10 then decide (higherI p < 0) else if op = 11 then higherI p == 0 else if op = 12 then p.turn != 1
    else if op = 13 then somewhere p (fun _ => true) else if op = 14 then somewhere p (fun x => decide (distI x (plcAt pl 0) ≤ low))
    else if op = 15 then somewhere p (fun x => inBoxB x (plcAt pl 0) (plcAt pl 1)) else p.hidden

/-- The places of a condition are right. -/
def PlOk (c : Cnd) : Prop := (c.pl.length : Int) = fPl c.op ∧ checkPlacesI c.pl = 0

theorem placed_ct (f : Nat) (cap : List Value) (g : Gh) : Ct Tryz.prog 142 [.func (.func f) #[] cap.toArray] g (fun r g' => ∃ β, r = .func (.func 178) #[] (List.toArray [.pointer (some ⟨β, 0, none⟩)]) ∧ g' β 0 = some (.func (.func f) #[] cap.toArray)) := by
  refine enter ok142 (by simp) fun W => ?_
  refine vc_box 100 0 rfl rfl rfl rfl fun β1 => ?_
  refine vc_ret 100 rfl rfl fun g' hle hpub => ⟨β1, rfl, ?_⟩
  exact hpub 0 _ β1 rfl rfl rfl 0 _ _ rfl rfl

theorem placedOk {g : Gh} {β f : Nat} {cap : List Value} {b : Plc → Bool} (hg : g β 0 = some (.func (.func f) #[] cap.toArray)) (hf : IsFn f)
    (h : ∀ g', Le g g' → ∀ x : Plc, checkPlaceI x = 0 → Ct Tryz.prog f ([] ++ [.agg #[.int .i64 x.lat, .int .i64 x.lon]] ++ cap) g' (fun r g'' => r = .bool (b x) ∧ g'' = g')) :
    AskOk g (.func (.func 178) #[] (List.toArray [.pointer (some ⟨β, 0, none⟩)])) (fun p => somewhere p b) :=
  ⟨178, [.pointer (some ⟨β, 0, none⟩)], rfl, fn178, fun g' hl _ _ hp hn => placed1_ct f cap b hp (hl _ _ _ hg) hf fun x hx => h g' hl x (hn.at_ x hx)⟩

theorem asking_ct (v : Value) (c : Cnd) (g : Gh) (hv : CndV g v c) (hm : MaxL g) (hpl : PlOk c) : Ct Tryz.prog 90 [v] g (fun r g' => AskOk g' r (asksB c)) := by
  have hv0 := hv
  obtain ⟨op, kids, text, low, high, pl⟩ := c
  obtain ⟨cells, rfl, hcr⟩ := hv0
  obtain ⟨A1, c1, A2, c2, rfl, hk, hp, h1, h2, h3, h4, h5⟩ := hcr.parts
  -- what is captured
  have cap : ∀ (β : Nat) (g' : Gh) (bs : List Bx), Le g g' → Pub bs g' → nth bs 0 = some ⟨some β, 26, [.v (.int .i64 op), .v (.slice A1 kids.length c1), .v (.string text), .v (.int .i64 low), .v (.int .i64 high), .v (.slice A2 pl.length c2)], true⟩ → CndAt g' β (.mk op kids text low high pl) := by
    intro β g' bs hle hpub hb
    refine ⟨_, fun j u hj => ?_, CndR.mono hle _ _ hcr⟩
    rw [Nat.zero_add]
    refine hpub 0 _ β hb rfl rfl j (.v u) u ?_ rfl
    have : nth (List.map C1.v [.int .i64 op, .slice A1 kids.length c1, .string text, .int .i64 low, .int .i64 high, .slice A2 pl.length c2]) j = some (.v u) := by rw [nth_map, hj]; rfl
    exact this
  refine enter ok90 (by simp) fun W => ?_
  refine vc_box 100 0 rfl rfl rfl rfl fun β => ?_
  refine vc_if 100 rfl rfl rfl (fun o4 => ?_) (fun o4 => ?_)
  · have o4 : op = 4 := by simpa using o4
    have e : ∀ p, asksB (.mk op kids text low high pl) p = hasS p.tags text := fun p => by simp [asksB, o4]
    refine vc_ret 100 rfl rfl fun g' hle hpub => ⟨127, [.pointer (some ⟨β, 0, none⟩)], rfl, fn127, fun g2 hl2 pv p hp hn => ?_⟩
    rw [e]; exact asksTag_ct hp ((cap β g' _ hle hpub rfl).mono hl2)
  have n4 : ¬ op = 4 := by simpa using o4
  refine vc_if 100 rfl rfl rfl (fun o5 => ?_) (fun o5 => ?_)
  · have o5 : op = 5 := by simpa using o5
    have e : ∀ p, asksB (.mk op kids text low high pl) p = Lib.contains (lowerL p.caption.data.toList) (lowerS text).data.toList := fun p => by simp [asksB, o5]
    refine vc_call 100 rfl rfl rfl (lower_ct text h4 _) ?_; rintro _ _ - ⟨rfl, rfl⟩
    refine vc_alloc 100 1 rfl rfl rfl fun β2 => ?_
    refine vc_ret 100 rfl rfl fun g' hle hpub => ⟨130, [.pointer (some ⟨β2, 0, none⟩)], rfl, fn130, fun g2 hl2 pv p hp hn => ?_⟩
    rw [e]; exact asksText_ct (lowerS text) hp hn ((hm.mono hle).mono hl2) (hl2 _ _ _ (hpub 1 _ β2 rfl rfl rfl 0 _ _ rfl rfl))
  have n5 : ¬ op = 5 := by simpa using o5
  refine vc_if 100 rfl rfl rfl (fun o6 => ?_) (fun o6 => ?_)
  · have o6 : op = 6 := by simpa using o6
    have e : ∀ p, asksB (.mk op kids text low high pl) p = hasI p.people low := fun p => by simp [asksB, o6]
    refine vc_ret 100 rfl rfl fun g' hle hpub => ⟨132, [.pointer (some ⟨β, 0, none⟩)], rfl, fn132, fun g2 hl2 pv p hp hn => ?_⟩
    rw [e]; exact asksPerson_ct hp ((cap β g' _ hle hpub rfl).mono hl2)
  have n6 : ¬ op = 6 := by simpa using o6
  refine vc_if 100 rfl rfl rfl (fun o7 => ?_) (fun o7 => ?_)
  · have o7 : op = 7 := by simpa using o7
    have e : ∀ p, asksB (.mk op kids text low high pl) p = (!outsideB p.stars low high) := fun p => by simp [asksB, o7]
    refine vc_ret 100 rfl rfl fun g' hle hpub => ⟨134, [.pointer (some ⟨β, 0, none⟩)], rfl, fn134, fun g2 hl2 pv p hp hn => ?_⟩
    rw [e]; exact asksStars_ct hp ((cap β g' _ hle hpub rfl).mono hl2)
  have n7 : ¬ op = 7 := by simpa using o7
  refine vc_if 100 rfl rfl rfl (fun o8 => ?_) (fun o8 => ?_)
  · have o8 : op = 8 := by simpa using o8
    have e : ∀ p, asksB (.mk op kids text low high pl) p = (decide (p.moment ≥ 0) && !outsideB (localI p) low high) := fun p => by simp [asksB, o8]
    refine vc_ret 100 rfl rfl fun g' hle hpub => ⟨135, [.pointer (some ⟨β, 0, none⟩)], rfl, fn135, fun g2 hl2 pv p hp hn => ?_⟩
    rw [e]; exact asksTime_ct hp hn ((cap β g' _ hle hpub rfl).mono hl2)
  have n8 : ¬ op = 8 := by simpa using o8
  refine vc_if 100 rfl rfl rfl (fun o9 => ?_) (fun o9 => ?_)
  · have o9 : op = 9 := by simpa using o9
    have e : ∀ p, asksB (.mk op kids text low high pl) p = decide (higherI p > 0) := fun p => by simp [asksB, o9]
    refine vc_ret 100 rfl rfl fun g' hle hpub => ⟨137, [], rfl, fn137, fun g2 hl2 pv p hp hn => ?_⟩
    rw [e]; exact asksTall_ct hp hn
  have n9 : ¬ op = 9 := by simpa using o9
  refine vc_if 100 rfl rfl rfl (fun o10 => ?_) (fun o10 => ?_)
  · have o10 : op = 10 := by simpa using o10
    have e : ∀ p, asksB (.mk op kids text low high pl) p = decide (higherI p < 0) := fun p => by simp [asksB, o10]
    refine vc_ret 100 rfl rfl fun g' hle hpub => ⟨139, [], rfl, fn139, fun g2 hl2 pv p hp hn => ?_⟩
    rw [e]; exact asksWide_ct hp hn
  have n10 : ¬ op = 10 := by simpa using o10
  refine vc_if 100 rfl rfl rfl (fun o11 => ?_) (fun o11 => ?_)
  · have o11 : op = 11 := by simpa using o11
    have e : ∀ p, asksB (.mk op kids text low high pl) p = (higherI p == 0) := fun p => by simp [asksB, o11]
    refine vc_ret 100 rfl rfl fun g' hle hpub => ⟨140, [], rfl, fn140, fun g2 hl2 pv p hp hn => ?_⟩
    rw [e]; exact asksSquare_ct hp hn
  have n11 : ¬ op = 11 := by simpa using o11
  refine vc_if 100 rfl rfl rfl (fun o12 => ?_) (fun o12 => ?_)
  · have o12 : op = 12 := by simpa using o12
    have e : ∀ p, asksB (.mk op kids text low high pl) p = (p.turn != 1) := fun p => by simp [asksB, o12]
    refine vc_ret 100 rfl rfl fun g' hle hpub => ⟨141, [], rfl, fn141, fun g2 hl2 pv p hp hn => ?_⟩
    rw [e]; exact asksTurned_ct hp
  have n12 : ¬ op = 12 := by simpa using o12
  refine vc_if 100 rfl rfl rfl (fun o13 => ?_) (fun o13 => ?_)
  · have o13 : op = 13 := by simpa using o13
    have e : asksB (.mk op kids text low high pl) = fun p => somewhere p (fun _ => true) := funext fun p => by simp [asksB, o13]
    rw [e]
    refine vc_call 100 rfl rfl rfl (placed_ct 143 [] _) ?_; rintro _ g1 hle1 ⟨β2, rfl, hg2⟩
    refine vc_ret0 100 rfl rfl ?_
    exact placedOk hg2 fn143 fun g' hl x hx => asksPlaced_ct x g'
  have n13 : ¬ op = 13 := by simpa using o13
  refine vc_if 100 rfl rfl rfl (fun o14 => ?_) (fun o14 => ?_)
  · have o14 : op = 14 := by simpa using o14
    have e : asksB (.mk op kids text low high pl) = fun p => somewhere p (fun x => decide (distI x (plcAt pl 0) ≤ low)) := funext fun p => by simp [asksB, o14]
    rw [e]
    have hl1 : pl.length = 1 := by have := hpl.1; simp only [Cnd.pl, Cnd.op, o14, fPl] at this; simp at this; omega
    obtain ⟨a, rfl⟩ : ∃ a, pl = [a] := List.length_eq_one_iff.1 hl1
    refine vc_pub 0 0 rfl rfl rfl _ rfl fun g1 hle1 hrow1 => ?_
    refine vc_call 100 rfl rfl rfl (placed_ct 144 [.pointer (some ⟨β, 0, none⟩)] _) ?_; rintro _ g2 hle2 ⟨β2, rfl, hg2⟩
    refine vc_ret0 100 rfl rfl ?_
    refine placedOk hg2 fn144 fun g' hl x hx => ?_
    exact asksNear_ct (c := .mk op kids text low high [a]) x a (CndAt.mono ⟨_, hrow1, CndR.mono hle1 _ _ hcr⟩ (Le.trans hle2 hl)) rfl hx (checkPlaces_all _ hpl.2 a (by simp [Cnd.pl]))
  have n14 : ¬ op = 14 := by simpa using o14
  refine vc_if 100 rfl rfl rfl (fun o15 => ?_) (fun o15 => ?_)
  · have o15 : op = 15 := by simpa using o15
    have e : asksB (.mk op kids text low high pl) = fun p => somewhere p (fun x => inBoxB x (plcAt pl 0) (plcAt pl 1)) := funext fun p => by simp [asksB, o15]
    rw [e]
    have hl1 : pl.length = 2 := by have := hpl.1; simp only [Cnd.pl, Cnd.op, o15, fPl] at this; simp at this; omega
    obtain ⟨a, b, rfl⟩ : ∃ a b, pl = [a, b] := by
      rcases pl with _ | ⟨a, _ | ⟨b, _ | ⟨c, r⟩⟩⟩ <;> simp at hl1
      exact ⟨a, b, rfl⟩
    refine vc_pub 0 0 rfl rfl rfl _ rfl fun g1 hle1 hrow1 => ?_
    refine vc_call 100 rfl rfl rfl (placed_ct 146 [.pointer (some ⟨β, 0, none⟩)] _) ?_; rintro _ g2 hle2 ⟨β2, rfl, hg2⟩
    refine vc_ret0 100 rfl rfl ?_
    refine placedOk hg2 fn146 fun g' hl x hx => ?_
    exact asksBox_ct (c := .mk op kids text low high [a, b]) x a b (CndAt.mono ⟨_, hrow1, CndR.mono hle1 _ _ hcr⟩ (Le.trans hle2 hl)) rfl
  have n15 : ¬ op = 15 := by simpa using o15
  have e : ∀ p, asksB (.mk op kids text low high pl) p = p.hidden := fun p => by simp [asksB, *]
  refine vc_ret 100 rfl rfl fun g' hle hpub => ⟨148, [], rfl, fn148, fun g2 hl2 pv p hp hn => ?_⟩
  rw [e]; exact asksHidden_ct hp

end Go.Proofs.YtmolncgdehfejaaGreatDoor

/- Contracts: nodes hold. -/
namespace Go.Proofs.YtmolncgdehfejaaGreatDoor
open Go
set_option maxRecDepth 10000

/-- A node that says of photos what h says. -/
def NodeOk (g : Gh) (v : Value) (h : Pho → Bool) : Prop :=
  ∃ T x f, v = .iface T x ∧ IsFn f ∧ (∀ W, (method (Tryz.prog.types.size + Made.depth) T x "tintype/find.holds").run Tryz.prog W = .ok (f, x) W) ∧
    ∀ g', Le g g' → ∀ pv p, PhoV g' pv p → PhoN p → Ct Tryz.prog f (x :: [pv]) g' (fun r g'' => r = .bool (h p) ∧ g'' = g')
theorem NodeOk.mono {g g' : Gh} {v : Value} {h : Pho → Bool} (a : NodeOk g v h) (hl : Le g g') : NodeOk g' v h := by
  obtain ⟨T, x, f, h1, h2, h3, h4⟩ := a
  exact ⟨T, x, f, h1, h2, h3, fun g2 hl2 => h4 g2 (Le.trans hl hl2)⟩
def NodesAt (g : Gh) (v : Value) (hs : List (Pho → Bool)) : Prop := Sl g 1 (fun cs h => ∃ nv, cs = [nv] ∧ NodeOk g nv h) v hs
theorem NodesAt.mono {g g' : Gh} {v : Value} {hs : List (Pho → Bool)} (h : NodesAt g v hs) (hl : Le g g') : NodesAt g' v hs :=
  Sl.mono h hl fun _ _ ⟨nv, a, b⟩ => ⟨nv, a, b.mono hl⟩

theorem fn334 : IsFn 334 := ⟨_, rfl, rfl, by kernel_rfl⟩
theorem fn335 : IsFn 335 := ⟨_, rfl, rfl, by kernel_rfl⟩
theorem fn336 : IsFn 336 := ⟨_, rfl, rfl, by kernel_rfl⟩
theorem fn337 : IsFn 337 := ⟨_, rfl, rfl, by kernel_rfl⟩
theorem inf135 : ∃ i, Tryz.prog.info? 135 = some i ∧ i.methods = #[{ name := "tintype/find.holds", sig := 133, path := #[], func := some (334, false) }] := ⟨_, rfl, by kernel_rfl⟩
theorem inf136 : ∃ i, Tryz.prog.info? 136 = some i ∧ i.methods = #[{ name := "tintype/find.holds", sig := 133, path := #[], func := some (335, false) }] := ⟨_, rfl, by kernel_rfl⟩
theorem inf138 : ∃ i, Tryz.prog.info? 138 = some i ∧ i.methods = #[{ name := "tintype/find.holds", sig := 133, path := #[], func := some (336, false) }] := ⟨_, rfl, by kernel_rfl⟩
theorem inf141 : ∃ i, Tryz.prog.info? 141 = some i ∧ i.methods = #[{ name := "tintype/find.holds", sig := 133, path := #[], func := some (337, false) }] := ⟨_, rfl, by kernel_rfl⟩
theorem und135 : (Tryz.prog.underlying 135).any notPtr = true := by kernel_rfl
theorem und136 : (Tryz.prog.underlying 136).any notPtr = true := by kernel_rfl
theorem und138 : (Tryz.prog.underlying 138).any notPtr = true := by kernel_rfl
theorem und141 : (Tryz.prog.underlying 141).any notPtr = true := by kernel_rfl
theorem meth {T f : Nat} (h1 : ∃ i, Tryz.prog.info? T = some i ∧ i.methods = #[{ name := "tintype/find.holds", sig := 133, path := #[], func := some (f, false) }])
    (h2 : (Tryz.prog.underlying T).any notPtr = true) (x : Value) (W : World) : (method (Tryz.prog.types.size + Made.depth) T x "tintype/find.holds").run Tryz.prog W = .ok (f, x) W := by
  obtain ⟨i, a, b⟩ := h1
  cases c : Tryz.prog.underlying T with
  | none => rw [c] at h2; cases h2
  | some d =>
    rw [c] at h2
    exact method_at a b c h2 x W

theorem all_ct {g : Gh} {v pv : Value} {p : Pho} {hs : List (Pho → Bool)} (hv : NodesAt g v hs) (hpv : PhoV g pv p) (hn : PhoN p) : Ct Tryz.prog 334 [v, pv] g (fun r g' => r = .bool (hs.all (fun h => h p)) ∧ g' = g) := by
  have hpv0 := hpv
  obtain ⟨A, c, rfl, hlen, hat⟩ := hv
  obtain ⟨_, rfl, _, _, _, rfl, ⟨A1, c1, rfl, hl1, hw⟩, ⟨A2, c2, rfl, hl2, ht⟩, ⟨A3, c3, rfl, hl3, hp⟩, hr⟩ := hpv
  refine enter ok334 (by simp) fun W => ?_
  refine vc_box 100 0 rfl rfl rfl rfl fun β => ?_
  refine vc_loop 100 rfl [3, 7, 8, 9] (fun m vs bs g' => ∃ k : Nat, k ≤ hs.length ∧ m = hs.length - k ∧ vs = [.c (.p 0 0), .c (.v (.slice A hs.length c)), .c (.v (.int .i64 (hs.length : Int))), .c (.v (.int .i64 (k : Int)))] ∧
      bs = [⟨some β, 127, [.v (.int .i64 p.id), .v (.string p.file), .v (.int .i64 p.moment), .v (.int .i64 p.zone), .v (.slice A1 p.wher.length c1), .v (.int .i64 p.w), .v (.int .i64 p.h), .v (.int .i64 p.turn), .v (.int .i64 p.stars), .v (.slice A2 p.tags.length c2), .v (.string p.caption), .v (.slice A3 p.people.length c3), .v (.bool p.hidden)], true⟩] ∧ g' = g ∧
      hs.all (fun h => h p) = (hs.drop k).all (fun h => h p)) hs.length ⟨0, Nat.zero_le _, rfl, rfl, rfl, rfl, rfl⟩ ?_
  rintro m vs bs' g' ⟨k, hk, rfl, rfl, rfl, rfl, hI⟩
  refine vc_if 100 rfl rfl rfl (fun h => ?_) (fun h => ?_)
  · have hlt : k < hs.length := by have := of_decide_eq_true h; omega
    obtain ⟨β', off, cs, rfl, hcs, hrow, ⟨nv, rfl, T, x, f, rfl, hf, hmeth, hct⟩⟩ := hat k hs[k] (nth_get hlt)
    rw [dropk hlt, List.all_cons] at hI
    refine vc_ia 100 rfl rfl rfl rfl (by omega) (by omega) ?_
    refine vc_ld1 100 rfl rfl rfl (v := .iface T x) hrow.at0 ?_
    refine vc_inv 100 rfl rfl rfl rfl hmeth hf (hct _ (Le.refl _) _ p hpv0 hn) ?_; rintro _ _ - ⟨rfl, rfl⟩
    refine vc_if 100 rfl rfl rfl (fun h => ?_) (fun h => ?_)
    · refine vc_ret0 100 rfl rfl ⟨?_, rfl⟩
      rw [hI, show hs[k] p = false by simpa using h]; rfl
    · refine vc_arith 100 rfl rfl rfl rfl rfl ((k + 1 : Nat) : Int) (wr (by omega) (by omega) (by omega)) ?_
      refine vc_fin 100 rfl ⟨hs.length - (k + 1), [0], by omega, rfl, k + 1, by omega, rfl, rfl, rfl, rfl, ?_⟩
      rw [hI, show hs[k] p = true by simpa using h]; rfl
  · have : k = hs.length := by have := of_decide_eq_false h; omega
    refine vc_ret0 100 rfl rfl ⟨?_, rfl⟩
    rw [hI, this, List.drop_length]; rfl
theorem some_ct {g : Gh} {v pv : Value} {p : Pho} {hs : List (Pho → Bool)} (hv : NodesAt g v hs) (hpv : PhoV g pv p) (hn : PhoN p) : Ct Tryz.prog 335 [v, pv] g (fun r g' => r = .bool (hs.any (fun h => h p)) ∧ g' = g) := by
  have hpv0 := hpv
  obtain ⟨A, c, rfl, hlen, hat⟩ := hv
  obtain ⟨_, rfl, _, _, _, rfl, ⟨A1, c1, rfl, hl1, hw⟩, ⟨A2, c2, rfl, hl2, ht⟩, ⟨A3, c3, rfl, hl3, hp⟩, hr⟩ := hpv
  refine enter ok335 (by simp) fun W => ?_
  refine vc_box 100 0 rfl rfl rfl rfl fun β => ?_
  refine vc_loop 100 rfl [3, 7, 8, 9] (fun m vs bs g' => ∃ k : Nat, k ≤ hs.length ∧ m = hs.length - k ∧ vs = [.c (.p 0 0), .c (.v (.slice A hs.length c)), .c (.v (.int .i64 (hs.length : Int))), .c (.v (.int .i64 (k : Int)))] ∧
      bs = [⟨some β, 127, [.v (.int .i64 p.id), .v (.string p.file), .v (.int .i64 p.moment), .v (.int .i64 p.zone), .v (.slice A1 p.wher.length c1), .v (.int .i64 p.w), .v (.int .i64 p.h), .v (.int .i64 p.turn), .v (.int .i64 p.stars), .v (.slice A2 p.tags.length c2), .v (.string p.caption), .v (.slice A3 p.people.length c3), .v (.bool p.hidden)], true⟩] ∧ g' = g ∧
      hs.any (fun h => h p) = (hs.drop k).any (fun h => h p)) hs.length ⟨0, Nat.zero_le _, rfl, rfl, rfl, rfl, rfl⟩ ?_
  rintro m vs bs' g' ⟨k, hk, rfl, rfl, rfl, rfl, hI⟩
  refine vc_if 100 rfl rfl rfl (fun h => ?_) (fun h => ?_)
  · have hlt : k < hs.length := by have := of_decide_eq_true h; omega
    obtain ⟨β', off, cs, rfl, hcs, hrow, ⟨nv, rfl, T, x, f, rfl, hf, hmeth, hct⟩⟩ := hat k hs[k] (nth_get hlt)
    rw [dropk hlt, List.any_cons] at hI
    refine vc_ia 100 rfl rfl rfl rfl (by omega) (by omega) ?_
    refine vc_ld1 100 rfl rfl rfl (v := .iface T x) hrow.at0 ?_
    refine vc_inv 100 rfl rfl rfl rfl hmeth hf (hct _ (Le.refl _) _ p hpv0 hn) ?_; rintro _ _ - ⟨rfl, rfl⟩
    refine vc_if 100 rfl rfl rfl (fun h => ?_) (fun h => ?_)
    · refine vc_ret0 100 rfl rfl ⟨?_, rfl⟩
      rw [hI, h]; rfl
    · refine vc_arith 100 rfl rfl rfl rfl rfl ((k + 1 : Nat) : Int) (wr (by omega) (by omega) (by omega)) ?_
      refine vc_fin 100 rfl ⟨hs.length - (k + 1), [0], by omega, rfl, k + 1, by omega, rfl, rfl, rfl, rfl, ?_⟩
      rw [hI, h]; rfl
  · have : k = hs.length := by have := of_decide_eq_false h; omega
    refine vc_ret0 100 rfl rfl ⟨?_, rfl⟩
    rw [hI, this, List.drop_length]; rfl
theorem no_ct {g : Gh} {nv pv : Value} {p : Pho} {h : Pho → Bool} (hv : NodeOk g nv h) (hpv : PhoV g pv p) (hn : PhoN p) : Ct Tryz.prog 336 [.agg #[nv], pv] g (fun r g' => r = .bool (!h p) ∧ g' = g) := by
  have hpv0 := hpv
  obtain ⟨T, x, f, rfl, hf, hmeth, hct⟩ := hv
  obtain ⟨_, rfl, _, _, _, rfl, ⟨A1, c1, rfl, hl1, hw⟩, ⟨A2, c2, rfl, hl2, ht⟩, ⟨A3, c3, rfl, hl3, hp⟩, hr⟩ := hpv
  refine enter ok336 (by simp) fun W => ?_
  refine vc_box 100 0 rfl rfl rfl rfl fun β => ?_
  refine vc_box 100 1 rfl rfl rfl rfl fun β => ?_
  refine vc_inv 100 rfl rfl rfl rfl hmeth hf (hct _ (Le.refl _) _ p hpv0 hn) ?_; rintro _ _ - ⟨rfl, rfl⟩
  exact vc_ret0 100 rfl rfl ⟨rfl, rfl⟩
theorem leaf_ct {g : Gh} {fv pv : Value} {A B : Option Addr} {n1 c1 n2 c2 : Nat} {op low high : Int} {text : ByteArray} {p : Pho} {h : Pho → Bool} (hv : AskOk g fv h) (hpv : PhoV g pv p) (hn : PhoN p) :
    Ct Tryz.prog 337 [.agg #[.int .i64 op, .slice A n1 c1, .string text, .int .i64 low, .int .i64 high, .slice B n2 c2, fv], pv] g (fun r g' => r = .bool (h p) ∧ g' = g) := by
  have hpv0 := hpv
  obtain ⟨f, cap, rfl, hf, hct⟩ := hv
  obtain ⟨_, rfl, _, _, _, rfl, ⟨A1, c1, rfl, hl1, hw⟩, ⟨A2, c2, rfl, hl2, ht⟩, ⟨A3, c3, rfl, hl3, hp⟩, hr⟩ := hpv
  refine enter ok337 (by simp) fun W => ?_
  refine vc_box 100 0 rfl rfl rfl rfl fun β => ?_
  refine vc_box 100 1 rfl rfl rfl rfl fun β => ?_
  refine vc_callv (first := []) (cap := cap) 100 rfl rfl rfl rfl hf (hct _ (Le.refl _) _ p hpv0 hn) ?_; rintro _ _ - ⟨rfl, rfl⟩
  exact vc_ret0 100 rfl rfl ⟨rfl, rfl⟩

end Go.Proofs.YtmolncgdehfejaaGreatDoor

/- Contracts: the node of a condition. -/
namespace Go.Proofs.YtmolncgdehfejaaGreatDoor
open Go
set_option maxRecDepth 10000

mutual
/-- A condition that is right, its count aside. -/
def CndW : Cnd → Prop
  | .mk op kids text low high pl => 1 ≤ op ∧ op ≤ 16 ∧ check3I (.mk op kids text low high pl) = 0 ∧ kids.length ≤ 100 ∧ KidsW kids
def KidsW : List Cnd → Prop
  | [] => True
  | k :: r => CndW k ∧ KidsW r
end
theorem kidsW_mem : ∀ (l : List Cnd), KidsW l → ∀ k ∈ l, CndW k
  | [], _, k, hk => by simp at hk
  | x :: r, h, k, hk => by
    rw [KidsW] at h
    rcases List.mem_cons.1 hk with rfl | hk
    · exact h.1
    · exact kidsW_mem r h.2 k hk
mutual
theorem ck_W : ∀ (c : Cnd) (nest n : Int), 0 ≤ n → (ckC c nest n).1 = 0 → CndW c ∧ n + 1 ≤ (ckC c nest n).2 ∧ (ckC c nest n).2 ≤ 100
  | .mk op kids text low high pl, nest, n, hn, h => by
    rw [ckC] at h ⊢
    rw [CndW]
    by_cases h1 : n + 1 > 100 ∨ nest > 12
    · rw [if_pos h1] at h; cases h
    rw [if_neg h1] at h ⊢
    by_cases h2 : outsideB op 1 16 = true
    · rw [if_pos h2] at h; cases h
    rw [if_neg h2] at h ⊢
    by_cases h3 : check3I (.mk op kids text low high pl) = 0
    · rw [if_pos h3] at h ⊢
      obtain ⟨a, b, c⟩ := ckL_W kids (nest + 1) (n + 1) (by omega) (by omega) h
      have h2' := outF (by simpa using h2)
      exact ⟨⟨h2'.1, h2'.2, h3, by omega, a⟩, by omega, c⟩
    · rw [if_neg h3] at h; exact absurd h h3
theorem ckL_W : ∀ (l : List Cnd) (nest n : Int), 0 ≤ n → n ≤ 100 → (ckL l nest n).1 = 0 → KidsW l ∧ n + l.length ≤ (ckL l nest n).2 ∧ (ckL l nest n).2 ≤ 100
  | [], nest, n, _, hn, _ => by rw [ckL, KidsW]; exact ⟨trivial, by simp, hn⟩
  | k :: r, nest, n, h0, hn, h => by
    rw [ckL] at h ⊢
    rw [KidsW]
    by_cases h1 : (ckC k nest n).1 = 0
    · rw [if_pos h1] at h ⊢
      obtain ⟨a1, a2, a3⟩ := ck_W k nest n h0 h1
      obtain ⟨b1, b2, b3⟩ := ckL_W r nest _ (by omega) a3 h
      refine ⟨⟨a1, b1⟩, ?_, b3⟩
      simp only [List.length_cons]; omega
    · rw [if_neg h1] at h; exact absurd h h1
end
theorem cndW {c : Cnd} (h : checkCondI c = 0) : CndW c := (ck_W c 0 0 (by omega) h).1
theorem check3_parts {c : Cnd} (h : check3I c = 0) : checkFormI c = 0 ∧ checkTextI c = 0 ∧ checkNumbersI c = 0 := by
  obtain ⟨a, b⟩ := andThen_zero h
  obtain ⟨b, c⟩ := andThen_zero b
  exact ⟨a, b, c⟩
theorem plOk {c : Cnd} (h : check3I c = 0) : PlOk c := by
  obtain ⟨a, _, b⟩ := check3_parts h
  refine ⟨formPl a, ?_⟩
  obtain ⟨op, kids, text, low, high, pl⟩ := c
  simp only [checkNumbersI] at b
  split at b
  · cases b
  · exact (andThen_zero b).1

mutual
def holdsB : Cnd → Pho → Bool
  | .mk op kids text low high pl, p => if op = 1 then (holdsL kids).all (fun h => h p) else if op = 2 then (holdsL kids).any (fun h => h p) else if op = 3 then !(holdsL kids).all (fun h => h p) else asksB (.mk op kids text low high pl) p
def holdsL : List Cnd → List (Pho → Bool)
  | [] => []
  | k :: r => holdsB k :: holdsL r
end
theorem holdsL_nth : ∀ (l : List Cnd) (j : Nat), nth (holdsL l) j = (nth l j).map holdsB
  | [], j => by simp [holdsL, nth]
  | k :: r, 0 => by rw [holdsL]; rfl
  | k :: r, j + 1 => by rw [holdsL]; exact holdsL_nth r j
theorem holdsL_length : ∀ (l : List Cnd), (holdsL l).length = l.length
  | [] => by rw [holdsL]; rfl
  | k :: r => by rw [holdsL, List.length_cons, List.length_cons, holdsL_length r]

theorem ren_vals (perm : List Nat) (xs : List Value) : (xs.map C1.v).map (ren perm) = xs.map C1.v := by
  rw [List.map_map]; rfl

theorem nodeOf_ct : ∀ (c : Cnd) (v : Value) (g : Gh), CndV g v c → CndW c → MaxL g → Ct Tryz.prog 62 [v] g (fun r g' => NodeOk g' r (holdsB c))
  | .mk op kids text low high pl, v, g, hv, hw, hm => by
    have ih : ∀ k ∈ kids, ∀ (v : Value) (g : Gh), CndV g v k → CndW k → MaxL g → Ct Tryz.prog 62 [v] g (fun r g' => NodeOk g' r (holdsB k)) := fun k hmem => nodeOf_ct k
    rw [CndW] at hw
    obtain ⟨w1, w2, w3, w4, w5⟩ := hw
    have hv0 := hv
    obtain ⟨A1, c1, A2, c2, rfl, hk, hp, h1, h2, h3, h4, h5⟩ := hv.parts
    obtain ⟨A, c, e, hlen, hat⟩ := id hk
    injection e with e1 e2 e3; subst e1; subst e3
    refine enter ok62 (by simp) fun W => ?_
    refine vc_box 100 0 rfl rfl rfl rfl fun β => ?_
    refine vc_nilrow 100 3 1 89 rfl rfl rfl ?_
    refine vc_loop 100 rfl [1, 3, 7, 8, 9] (fun m vs bs g' => ∃ (k : Nat) (xs spare : List Value) (blk : Option Nat) (cap : Nat), k ≤ kids.length ∧ m = kids.length - k ∧ vs = [.c (.p 0 0), .c (.s 1 0 k cap), .c (.v (.slice A1 kids.length c1)), .c (.v (.int .i64 (kids.length : Int))), .c (.v (.int .i64 (k : Int)))] ∧
        bs = [⟨some β, 26, [.v (.int .i64 op), .v (.slice A1 kids.length c1), .v (.string text), .v (.int .i64 low), .v (.int .i64 high), .v (.slice A2 pl.length c2)], true⟩, ⟨blk, 89, xs.map .v ++ spare.map .v, true⟩] ∧ Le g g' ∧
        RowOk blk 1 k cap (xs.map .v) (spare.map .v) ∧ ∀ j x, nth xs j = some x → ∃ kc, nth kids j = some kc ∧ NodeOk g' x (holdsB kc)) kids.length
      ⟨0, [], [], none, 0, Nat.zero_le _, rfl, rfl, rfl, Le.refl g, ⟨rfl, Nat.le_refl _, Nat.zero_le _, rfl, fun _ => rfl⟩, fun j x hx => by simp [nth] at hx⟩ ?_
    rintro m vs bs' g1 ⟨k, xs, spare, blk, cap, hkl, rfl, rfl, rfl, hle, hrow, hxs⟩
    refine vc_if 100 rfl rfl rfl (fun h => ?_) (fun h => ?_)
    · have hlt : k < kids.length := by have := of_decide_eq_true h; omega
      obtain ⟨β', off, cs, rfl, hcs, hrow', hcr⟩ := hat k kids[k] (nth_get hlt)
      have hI := ih kids[k] (List.getElem_mem hlt) (.agg cs.toArray) g1 ⟨cs, rfl, CndR.mono hle _ _ hcr⟩ (kidsW_mem _ w5 _ (List.getElem_mem hlt)) (hm.mono hle)
      have hkk := nth_get hlt
      generalize kids[k] = kc at *
      obtain ⟨op', kids', text', low', high', pl'⟩ := kc
      obtain ⟨A1', c1', A2', c2', rfl, _⟩ := hcr.parts
      refine vc_ia 100 rfl rfl rfl rfl (by omega) (by omega) ?_
      refine vc_ldn 100 _ rfl rfl rfl rfl (hrow'.mono hle) ?_
      refine vc_alloc 100 2 rfl rfl rfl fun β4 => ?_
      refine vc_call 100 rfl rfl rfl hI ?_
      rintro r g2 hle2 hnode
      have hnode0 := hnode
      obtain ⟨T, x, f, rfl, _⟩ := hnode
      refine vc_bslice 100 3 rfl rfl rfl rfl rfl fun β5 => ?_
      refine vc_append 100 4 (xs.map .v) (spare.map .v) (news := [.v (.iface T x)]) rfl rfl rfl rfl rfl rfl hrow rfl rfl rfl rfl (by decide) rfl (by omega) (by omega) (by simp only [maxLen]; omega) (by omega) fun β6 cap' spare' hrow2 => ?_
      refine vc_arith 100 rfl rfl rfl rfl rfl ((k + 1 : Nat) : Int) (wr (by omega) (by omega) (by omega)) ?_
      refine vc_fin 100 rfl ⟨kids.length - (k + 1), [0, 4], by omega, rfl, k + 1, xs ++ [.iface T x], spare', some β6, cap', by omega, rfl, rfl, ?_, Le.trans hle hle2, ?_, ?_⟩
      · have e6 : List.map (ren [0, 4]) ((xs.map C1.v ++ [C1.v (Value.iface T x)]) ++ spare'.map C1.v) = (xs ++ [Value.iface T x]).map C1.v ++ spare'.map C1.v := by
          rw [List.map_append, List.map_append, ren_vals, ren_vals, List.map_append]; rfl
        exact congrArg (fun l => [_, (⟨some β6, 89, l, true⟩ : Bx)]) e6
      · rw [List.map_append]; exact hrow2
      · intro j y hy
        have hxl : xs.length = k := by have := hrow.1; simpa using this
        rw [nth_append] at hy
        split at hy
        · obtain ⟨kc, a, b⟩ := hxs j y hy
          exact ⟨kc, a, b.mono hle2⟩
        · rename_i hge
          have hj := nth_lt hy
          simp only [List.length_singleton] at hj
          have : j = k := by omega
          subst this
          rw [hxl, Nat.sub_self] at hy
          simp only [nth, Option.some.injEq] at hy
          subst hy
          exact ⟨_, hkk, hnode0⟩
    · have hkn : k = kids.length := by have := of_decide_eq_false h; omega
      have hxl : xs.length = k := by have := hrow.1; simpa using this
      have hcapL := hrow.2.2.1
      have hkcap := hrow.2.1
      have nodes : ∀ (g' : Gh) (blk : Option Nat), blk = some blk.get! ∨ blk = none → True := fun _ _ _ => trivial
      have nodesAt : ∀ (g' : Gh) (bs : List Bx) (β' : Nat), Le g1 g' → Pub bs g' → nth bs 1 = some ⟨some β', 89, xs.map .v ++ spare.map .v, true⟩ → NodesAt g' (.slice (some ⟨β', 0, none⟩) kids.length cap) (holdsL kids) := by
        intro g' bs β' hl hpub hb
        refine ⟨_, cap, by rw [holdsL_length], ?_, fun j h hj => ?_⟩
        · rw [holdsL_length]; simp only [maxLen] at hcapL; omega
        · rw [holdsL_nth] at hj
          cases hkj : nth kids j with
          | none => rw [hkj] at hj; cases hj
          | some kc =>
            rw [hkj] at hj
            simp only [Option.map_some, Option.some.injEq] at hj
            subst hj
            have hjl := nth_lt hkj
            have hx := nth_get (l := xs) (k := j) (by omega)
            obtain ⟨kc', a, b⟩ := hxs j _ hx
            rw [hkj] at a; injection a with a; subst a
            refine ⟨β', 0, [xs[j]], rfl, rfl, fun i u hi => ?_, _, rfl, b.mono hl⟩
            cases i with
            | zero =>
              simp only [nth, Option.some.injEq] at hi
              subst hi
              refine hpub 1 _ β' hb rfl rfl (0 + j * 1 + 0) (.v xs[j]) _ ?_ rfl
              rw [show 0 + j * 1 + 0 = j by omega, nth_append, if_pos (by rw [List.length_map]; omega), nth_map, hx]; rfl
            | succ i => simp [nth] at hi
      subst hkn
      cases blk with
      | none =>
        have hc0 := hrow.2.2.2.2 rfl
        subst hc0
        have hk0 : kids.length = 0 := by omega
        obtain rfl : kids = [] := List.eq_nil_of_length_eq_zero hk0
        have nodes0 : ∀ g', NodesAt g' (.slice none 0 0) (holdsL []) := fun g' => ⟨none, 0, rfl, by simp [holdsL], fun j h hj => by simp [holdsL, nth] at hj⟩
        refine vc_if 100 rfl rfl rfl (fun o1 => ?_) (fun o1 => ?_)
        · have o1 : op = 1 := by simpa using o1
          refine vc_ret 100 rfl rfl fun g' hl hpub => ⟨135, _, 334, rfl, fn334, meth inf135 und135 _, fun g2 hl2 pv p hp hn => ?_⟩
          rw [holdsB, if_pos o1]; exact all_ct (nodes0 _) hp hn
        have n1 : ¬ op = 1 := by simpa using o1
        refine vc_if 100 rfl rfl rfl (fun o2 => ?_) (fun o2 => ?_)
        · have o2 : op = 2 := by simpa using o2
          refine vc_ret 100 rfl rfl fun g' hl hpub => ⟨136, _, 335, rfl, fn335, meth inf136 und136 _, fun g2 hl2 pv p hp hn => ?_⟩
          rw [holdsB, if_neg n1, if_pos o2]; exact some_ct (nodes0 _) hp hn
        have n2 : ¬ op = 2 := by simpa using o2
        refine vc_if 100 rfl rfl rfl (fun o3 => ?_) (fun o3 => ?_)
        · have o3 : op = 3 := by simpa using o3
          have hf := (check3_parts w3).1
          simp [checkFormI, o3] at hf
        have n3 : ¬ op = 3 := by simpa using o3
        refine vc_draw mix 100 rfl [2, 3, 4] (fun i f g' => match i with
          | 2 => ∃ fv, f 2 = .c (.v fv) ∧ AskOk g' fv (asksB (Cnd.mk op [] text low high pl))
          | 3 => ∃ fv, f 3 = .g [.v (.int .i64 op), .v (.slice A1 0 c1), .v (.string text), .v (.int .i64 low), .v (.int .i64 high), .v (.slice A2 pl.length c2), .v fv] ∧ AskOk g' fv (asksB (Cnd.mk op [] text low high pl))
          | _ => ∃ fv, f 4 = .c (.v (.iface 141 (.agg #[.int .i64 op, .slice A1 0 c1, .string text, .int .i64 low, .int .i64 high, .slice A2 pl.length c2, fv]))) ∧ AskOk g' fv (asksB (Cnd.mk op [] text low high pl))) rfl rfl (fun f => rfl) ?_ ?_ ?_
        · intro i hi f f' g' g'' hf hl hg
          simp only [List.mem_cons, List.not_mem_nil, or_false] at hi
          rcases hi with rfl | rfl | rfl
          · obtain ⟨fv, a, b⟩ := hg; exact ⟨fv, by rw [hf 2 (.inl rfl)]; exact a, b.mono hl⟩
          · obtain ⟨fv, a, b⟩ := hg; exact ⟨fv, by rw [hf 3 (.inl rfl)]; exact a, b.mono hl⟩
          · obtain ⟨fv, a, b⟩ := hg; exact ⟨fv, by rw [hf 4 (.inl rfl)]; exact a, b.mono hl⟩
        · intro i hi r hr f g' hl hanc
          simp only [List.mem_cons, List.not_mem_nil, or_false] at hi
          rcases hi with rfl | rfl | rfl
          · injection hr with hr; subst hr
            refine vc_call 100 rfl rfl rfl (asking_ct _ (Cnd.mk op [] text low high pl) g' ((hv0.mono hle).mono hl) ((hm.mono hle).mono hl) (plOk w3)) ?_
            rintro fv g2 hl2 hask
            refine vc_fin 100 rfl ⟨rfl, hl2, fun d hd f' hf' e => ?_⟩
            injection hd with hd; subst hd
            obtain ⟨ff, cap, rfl, _⟩ := id hask
            exact ⟨_, e, hask⟩
          · injection hr with hr; subst hr
            obtain ⟨fv, e2, hask⟩ := hanc 2 (by decide) rfl
            obtain ⟨ff, cap, rfl, _⟩ := id hask
            refine vc_envs [36, 38] [.g [.v (.int .i64 op), .v (.slice A1 0 c1), .v (.string text), .v (.int .i64 low), .v (.int .i64 high), .v (.slice A2 pl.length c2)], .c (.v (.func (.func ff) #[] cap.toArray))] (by show [_, f 2] = _; rw [e2]; rfl) ?_
            refine vc_fin 100 rfl ⟨rfl, Le.refl _, fun d hd f' hf' e => ?_⟩
            injection hd with hd; subst hd
            exact ⟨_, e, hask⟩
          · injection hr with hr; subst hr
            obtain ⟨fv, e3, hask⟩ := hanc 3 (by decide) rfl
            obtain ⟨ff, cap, rfl, _⟩ := id hask
            refine vc_envs [39] [.g [.v (.int .i64 op), .v (.slice A1 0 c1), .v (.string text), .v (.int .i64 low), .v (.int .i64 high), .v (.slice A2 pl.length c2), .v (.func (.func ff) #[] cap.toArray)]] (by show [f 3] = _; rw [e3]) ?_
            refine vc_fin 100 rfl ⟨rfl, Le.refl _, fun d hd f' hf' e => ?_⟩
            injection hd with hd; subst hd
            exact ⟨_, e, hask⟩
        · intro f g' hl hall
          obtain ⟨fv, e4, hask⟩ := hall 4 (by simp)
          refine vc_envs [2] [.c (.v (.iface 141 (.agg #[.int .i64 op, .slice A1 0 c1, .string text, .int .i64 low, .int .i64 high, .slice A2 pl.length c2, fv])))] (by show [f 4] = _; rw [e4]) ?_
          refine vc_ret0 100 rfl rfl ⟨141, _, 337, rfl, fn337, meth inf141 und141 _, fun g2 hl2 pv p hp hn => ?_⟩
          rw [holdsB, if_neg n1, if_neg n2, if_neg n3]
          exact leaf_ct (hask.mono hl2) hp hn
      | some β' =>
        refine vc_if 100 rfl rfl rfl (fun o1 => ?_) (fun o1 => ?_)
        · have o1 : op = 1 := by simpa using o1
          refine vc_ret 100 rfl rfl fun g' hl hpub => ⟨135, _, 334, rfl, fn334, meth inf135 und135 _, fun g2 hl2 pv p hp hn => ?_⟩
          rw [holdsB, if_pos o1]; exact all_ct ((nodesAt g' _ β' hl hpub rfl).mono hl2) hp hn
        have n1 : ¬ op = 1 := by simpa using o1
        refine vc_if 100 rfl rfl rfl (fun o2 => ?_) (fun o2 => ?_)
        · have o2 : op = 2 := by simpa using o2
          refine vc_ret 100 rfl rfl fun g' hl hpub => ⟨136, _, 335, rfl, fn335, meth inf136 und136 _, fun g2 hl2 pv p hp hn => ?_⟩
          rw [holdsB, if_neg n1, if_pos o2]; exact some_ct ((nodesAt g' _ β' hl hpub rfl).mono hl2) hp hn
        have n2 : ¬ op = 2 := by simpa using o2
        refine vc_if 100 rfl rfl rfl (fun o3 => ?_) (fun o3 => ?_)
        · have o3 : op = 3 := by simpa using o3
          have hlen1 : kids.length = 1 := by
            have hf := (check3_parts w3).1
            simp only [checkFormI] at hf
            split at hf
            · cases hf
            · rename_i hn
              simp only [Bool.not_eq_true, Bool.or_eq_false_iff] at hn
              have := hn.1.1.1.1.1
              simp [o3] at this
              omega
          obtain ⟨kc, rfl⟩ := List.length_eq_one_iff.1 hlen1
          obtain ⟨x, rfl⟩ := List.length_eq_one_iff.1 (hxl.trans hlen1)
          obtain ⟨kc', a, b⟩ := hxs 0 x rfl
          simp only [nth, Option.some.injEq] at a
          subst a
          obtain ⟨T, y, f, rfl, _⟩ := id b
          refine vc_ias 100 rfl rfl rfl rfl rfl rfl (by omega) (by simp) ?_
          refine vc_ret 100 rfl rfl fun g' hl hpub => ⟨138, _, 336, rfl, fn336, meth inf138 und138 _, fun g2 hl2 pv p hp hn => ?_⟩
          have e : holdsB (.mk op [kc] text low high pl) p = !holdsB kc p := by
            rw [holdsB, if_neg n1, if_neg n2, if_pos o3, holdsL, holdsL]; simp
          rw [e]; exact no_ct ((b.mono hl).mono hl2) hp hn
        have n3 : ¬ op = 3 := by simpa using o3
        refine vc_draw mix 100 rfl [2, 3, 4] (fun i f g' => match i with
          | 2 => ∃ fv, f 2 = .c (.v fv) ∧ AskOk g' fv (asksB (Cnd.mk op kids text low high pl))
          | 3 => ∃ fv, f 3 = .g [.v (.int .i64 op), .v (.slice A1 kids.length c1), .v (.string text), .v (.int .i64 low), .v (.int .i64 high), .v (.slice A2 pl.length c2), .v fv] ∧ AskOk g' fv (asksB (Cnd.mk op kids text low high pl))
          | _ => ∃ fv, f 4 = .c (.v (.iface 141 (.agg #[.int .i64 op, .slice A1 kids.length c1, .string text, .int .i64 low, .int .i64 high, .slice A2 pl.length c2, fv]))) ∧ AskOk g' fv (asksB (Cnd.mk op kids text low high pl))) rfl rfl (fun f => rfl) ?_ ?_ ?_
        · intro i hi f f' g' g'' hf hl hg
          simp only [List.mem_cons, List.not_mem_nil, or_false] at hi
          rcases hi with rfl | rfl | rfl
          · obtain ⟨fv, a, b⟩ := hg; exact ⟨fv, by rw [hf 2 (.inl rfl)]; exact a, b.mono hl⟩
          · obtain ⟨fv, a, b⟩ := hg; exact ⟨fv, by rw [hf 3 (.inl rfl)]; exact a, b.mono hl⟩
          · obtain ⟨fv, a, b⟩ := hg; exact ⟨fv, by rw [hf 4 (.inl rfl)]; exact a, b.mono hl⟩
        · intro i hi r hr f g' hl hanc
          simp only [List.mem_cons, List.not_mem_nil, or_false] at hi
          rcases hi with rfl | rfl | rfl
          · injection hr with hr; subst hr
            refine vc_call 100 rfl rfl rfl (asking_ct _ (Cnd.mk op kids text low high pl) g' ((hv0.mono hle).mono hl) ((hm.mono hle).mono hl) (plOk w3)) ?_
            rintro fv g2 hl2 hask
            refine vc_fin 100 rfl ⟨rfl, hl2, fun d hd f' hf' e => ?_⟩
            injection hd with hd; subst hd
            obtain ⟨ff, cap, rfl, _⟩ := id hask
            exact ⟨_, e, hask⟩
          · injection hr with hr; subst hr
            obtain ⟨fv, e2, hask⟩ := hanc 2 (by decide) rfl
            obtain ⟨ff, cap, rfl, _⟩ := id hask
            refine vc_envs [36, 38] [.g [.v (.int .i64 op), .v (.slice A1 kids.length c1), .v (.string text), .v (.int .i64 low), .v (.int .i64 high), .v (.slice A2 pl.length c2)], .c (.v (.func (.func ff) #[] cap.toArray))] (by show [_, f 2] = _; rw [e2]; rfl) ?_
            refine vc_fin 100 rfl ⟨rfl, Le.refl _, fun d hd f' hf' e => ?_⟩
            injection hd with hd; subst hd
            exact ⟨_, e, hask⟩
          · injection hr with hr; subst hr
            obtain ⟨fv, e3, hask⟩ := hanc 3 (by decide) rfl
            obtain ⟨ff, cap, rfl, _⟩ := id hask
            refine vc_envs [39] [.g [.v (.int .i64 op), .v (.slice A1 kids.length c1), .v (.string text), .v (.int .i64 low), .v (.int .i64 high), .v (.slice A2 pl.length c2), .v (.func (.func ff) #[] cap.toArray)]] (by show [f 3] = _; rw [e3]) ?_
            refine vc_fin 100 rfl ⟨rfl, Le.refl _, fun d hd f' hf' e => ?_⟩
            injection hd with hd; subst hd
            exact ⟨_, e, hask⟩
        · intro f g' hl hall
          obtain ⟨fv, e4, hask⟩ := hall 4 (by simp)
          refine vc_envs [2] [.c (.v (.iface 141 (.agg #[.int .i64 op, .slice A1 kids.length c1, .string text, .int .i64 low, .int .i64 high, .slice A2 pl.length c2, fv])))] (by show [f 4] = _; rw [e4]) ?_
          refine vc_ret0 100 rfl rfl ⟨141, _, 337, rfl, fn337, meth inf141 und141 _, fun g2 hl2 pv p hp hn => ?_⟩
          rw [holdsB, if_neg n1, if_neg n2, if_neg n3]
          exact leaf_ct (hask.mono hl2) hp hn
  termination_by c => SizeOf.sizeOf c
  decreasing_by
    have := List.sizeOf_lt_of_mem hmem
    simp only [Cnd.mk.sizeOf_spec]; omega

end Go.Proofs.YtmolncgdehfejaaGreatDoor

/- Contracts: the photos for which a node holds, and the ids of photos. -/
namespace Go.Proofs.YtmolncgdehfejaaGreatDoor
open Go
set_option maxRecDepth 10000

theorem flat_length (n : Nat) : ∀ (css : List (List Value)), (∀ cs ∈ css, cs.length = n) → css.flatten.length = css.length * n
  | [], _ => by simp
  | c :: r, h => by
    rw [List.flatten_cons, List.length_append, flat_length n r (fun cs hc => h cs (by simp [hc])), h c (by simp), List.length_cons, Nat.succ_mul, Nat.add_comm]
theorem flat_nth (n : Nat) : ∀ (css : List (List Value)), (∀ cs ∈ css, cs.length = n) → ∀ j cs, nth css j = some cs → ∀ o u, nth cs o = some u → nth css.flatten (j * n + o) = some u
  | [], _, j, cs, hj, _, _, _ => by simp [nth] at hj
  | c :: r, h, 0, cs, hj, o, u, ho => by
    simp only [nth, Option.some.injEq] at hj
    subst hj
    rw [List.flatten_cons, nth_append, if_pos (by have := nth_lt ho; omega), Nat.zero_mul, Nat.zero_add]; exact ho
  | c :: r, h, j + 1, cs, hj, o, u, ho => by
    have hc := h c (by simp)
    rw [List.flatten_cons, nth_append, if_neg (by rw [hc, Nat.succ_mul]; omega), hc, show (j + 1) * n + o - n = j * n + o by rw [Nat.succ_mul]; omega]
    exact flat_nth n r (fun cs hc => h cs (by simp [hc])) j cs (by simpa [nth] using hj) o u ho
/-- The cells of a photo. -/
def phoC (p : Pho) (A1 : Option Addr) (c1 : Nat) (A2 : Option Addr) (c2 : Nat) (A3 : Option Addr) (c3 : Nat) : List Value := [.int .i64 p.id, .string p.file, .int .i64 p.moment, .int .i64 p.zone, .slice A1 p.wher.length c1, .int .i64 p.w, .int .i64 p.h, .int .i64 p.turn, .int .i64 p.stars, .slice A2 p.tags.length c2, .string p.caption, .slice A3 p.people.length c3, .bool p.hidden]
theorem pho_len {g : Gh} {cs : List Value} {p : Pho} (h : PhoR g cs p) : cs.length = 13 := by
  obtain ⟨_, _, _, rfl, _⟩ := h; rfl
theorem nth_mem {α : Type} {l : List α} {j : Nat} {x : α} (h : nth l j = some x) : x ∈ l := by
  rw [nth_eq] at h; exact List.mem_of_getElem? h
theorem mem_nth {α : Type} {l : List α} {x : α} (h : x ∈ l) : ∃ j, nth l j = some x := by
  obtain ⟨j, hj, rfl⟩ := List.getElem_of_mem h
  exact ⟨j, nth_get hj⟩

/-- Rows of cells that read as photos. -/
def RowsOf (g : Gh) (css : List (List Value)) (ps : List Pho) : Prop := css.length = ps.length ∧ ∀ j cs, nth css j = some cs → ∃ p, nth ps j = some p ∧ PhoR g cs p
theorem RowsOf.mono {g g' : Gh} {css : List (List Value)} {ps : List Pho} (h : RowsOf g css ps) (hl : Le g g') : RowsOf g' css ps :=
  ⟨h.1, fun j cs hj => let ⟨p, a, b⟩ := h.2 j cs hj; ⟨p, a, b.mono hl⟩⟩
theorem RowsOf.len {g : Gh} {css : List (List Value)} {ps : List Pho} (h : RowsOf g css ps) : ∀ cs ∈ css, cs.length = 13 := fun cs hc => by
  obtain ⟨j, hj⟩ := mem_nth hc
  obtain ⟨p, _, b⟩ := h.2 j cs hj
  exact pho_len b
theorem RowsOf.snoc {g : Gh} {css : List (List Value)} {ps : List Pho} (h : RowsOf g css ps) {cs : List Value} {p : Pho} (hp : PhoR g cs p) : RowsOf g (css ++ [cs]) (ps ++ [p]) := by
  refine ⟨by simp [h.1], fun j cs' hj => ?_⟩
  rw [nth_append] at hj ⊢
  rw [← h.1]
  split at hj
  · rename_i hlt; rw [if_pos hlt]; exact h.2 j cs' hj
  · rename_i hge
    rw [if_neg hge]
    have := nth_lt hj
    simp only [List.length_singleton] at this
    rw [show j - css.length = 0 by omega] at hj ⊢
    simp only [nth, Option.some.injEq] at hj ⊢
    subst hj; exact ⟨p, rfl, hp⟩
/-- An own row that is handed over reads as photos. -/
theorem rows_phos {g' : Gh} {bs : List Bx} {css : List (List Value)} {ps : List Pho} {i β ty cap : Nat} {sp : List C1} (h : RowsOf g' css ps) (hpub : Pub bs g') (hb : nth bs i = some ⟨some β, ty, css.flatten.map .v ++ sp, true⟩) (h1 : ps.length ≤ cap) (h2 : cap ≤ 9223372036854775807) :
    PhosV g' (.slice (some ⟨β, 0, none⟩) ps.length cap) ps := by
  refine ⟨_, cap, rfl, ⟨h1, h2⟩, fun j p hj => ?_⟩
  have hlt : j < css.length := by have := nth_lt hj; have := h.1; omega
  obtain ⟨p', a, b⟩ := h.2 j _ (nth_get hlt)
  rw [hj] at a; injection a with a; subst a
  refine ⟨β, 0, css[j], rfl, lenIs_of _ _ (pho_len b), fun o u ho => ?_, b⟩
  have hf := flat_nth 13 css h.len j _ (nth_get hlt) o u ho
  refine hpub i _ β hb rfl rfl (0 + j * 13 + o) (.v u) u ?_ rfl
  rw [Nat.zero_add, nth_append, if_pos (by rw [List.length_map]; exact nth_lt hf), nth_map, hf]; rfl

/-- A slice without a place of its own within a cell. -/
def PlainS (v : Value) : Prop := (∃ n c, v = .slice none n c) ∨ ∃ β off n c, v = .slice (some ⟨β, off, none⟩) n c
theorem holdingP_ct (v nv : Value) (l : List Pho) (h : Pho → Bool) (g : Gh) (hv : PhosV g v l) (hn : ∀ p ∈ l, PhoN p) (hl : l.length ≤ 1000) (hnode : NodeOk g nv h) :
    Ct Tryz.prog 61 [v, nv] g (fun r g' => PhosV g' r (l.filter h) ∧ PlainS r) := by
  obtain ⟨T, x, f, rfl, hf, hmeth, hct⟩ := hnode
  obtain ⟨A, c, rfl, hlen, hat⟩ := hv
  refine enter ok61 (by simp) fun W => ?_
  refine vc_nilrow 100 5 0 127 rfl rfl rfl ?_
  refine vc_loop 100 rfl [1, 5, 8, 9, 10] (fun m vs bs g' => ∃ (k : Nat) (css : List (List Value)) (spare : List Value) (blk : Option Nat) (cap : Nat), k ≤ l.length ∧ m = l.length - k ∧
      vs = [.c (.v (.iface T x)), .c (.s 0 0 ((l.take k).filter h).length cap), .c (.v (.slice A l.length c)), .c (.v (.int .i64 (l.length : Int))), .c (.v (.int .i64 (k : Int)))] ∧
      bs = [⟨blk, 127, css.flatten.map .v ++ spare.map .v, true⟩] ∧ g' = g ∧ RowOk blk 13 ((l.take k).filter h).length cap (css.flatten.map .v) (spare.map .v) ∧ RowsOf g css ((l.take k).filter h)) l.length
    ⟨0, [], [], none, 0, Nat.zero_le _, rfl, rfl, rfl, rfl, ⟨rfl, Nat.le_refl _, Nat.zero_le _, rfl, fun _ => rfl⟩, rfl, fun j cs hj => by simp [nth] at hj⟩ ?_
  rintro m vs bs' g' ⟨k, css, spare, blk, cap, hkl, rfl, rfl, rfl, rfl, hrow, hrows⟩
  refine vc_if 100 rfl rfl rfl (fun h0 => ?_) (fun h0 => ?_)
  · have hlt : k < l.length := by have := of_decide_eq_true h0; omega
    obtain ⟨β', off, cs, rfl, hcs, hrow', hpr⟩ := hat k l[k] (nth_get hlt)
    have htake : (l.take (k + 1)).filter h = (l.take k).filter h ++ (if h l[k] then [l[k]] else []) := by
      rw [List.take_succ_eq_append_getElem hlt, List.filter_append]
      congr 1
      cases hh : h l[k] <;> simp [hh]
    have hpn := hn l[k] (List.getElem_mem hlt)
    have hflen : ((l.take k).filter h).length ≤ 1000 := by
      have := List.length_filter_le h (l.take k)
      rw [List.length_take] at this; omega
    generalize l[k] = p at *
    have hpr0 := hpr
    obtain ⟨_, _, _, rfl, ⟨A1, c1, rfl, _⟩, ⟨A2, c2, rfl, _⟩, ⟨A3, c3, rfl, _⟩, _⟩ := hpr
    refine vc_ia 100 rfl rfl rfl rfl (by omega) (by omega) ?_
    refine vc_ldn 100 _ rfl rfl rfl rfl hrow' ?_
    refine vc_alloc 100 1 rfl rfl rfl fun β4 => ?_
    refine vc_inv 100 rfl rfl rfl rfl hmeth hf (hct _ (Le.refl _) _ p ⟨_, rfl, hpr0⟩ hpn) ?_
    rintro _ _ - ⟨rfl, rfl⟩
    refine vc_if 100 rfl rfl rfl (fun hh => ?_) (fun hh => ?_)
    · rw [hh, if_pos rfl] at htake
      have hl1 : ((l.take (k + 1)).filter h).length = ((l.take k).filter h).length + 1 := by rw [htake, List.length_append]; rfl
      refine vc_bslice 100 2 rfl rfl rfl rfl rfl fun β5 => ?_
      refine vc_append 100 3 (css.flatten.map .v) (spare.map .v) (news := [.v (.int .i64 p.id), .v (.string p.file), .v (.int .i64 p.moment), .v (.int .i64 p.zone), .v (.slice A1 p.wher.length c1), .v (.int .i64 p.w), .v (.int .i64 p.h), .v (.int .i64 p.turn), .v (.int .i64 p.stars), .v (.slice A2 p.tags.length c2), .v (.string p.caption), .v (.slice A3 p.people.length c3), .v (.bool p.hidden)]) rfl rfl rfl rfl rfl rfl hrow rfl rfl rfl rfl (by decide) rfl (by omega) (by omega) (by simp only [maxLen]; omega) (by omega) fun β6 cap' spare' hrow2 => ?_
      refine vc_arith 100 rfl rfl rfl rfl rfl ((k + 1 : Nat) : Int) (wr (by omega) (by omega) (by omega)) ?_
      refine vc_fin 100 rfl ⟨l.length - (k + 1), [3], by omega, rfl, k + 1, css ++ [phoC p A1 c1 A2 c2 A3 c3], spare', some β6, cap', by omega, rfl, ?_, ?_, rfl, ?_, ?_⟩
      · rw [hl1]; rfl
      · have e6 : List.map (ren [3]) ((css.flatten.map C1.v ++ [.v (.int .i64 p.id), .v (.string p.file), .v (.int .i64 p.moment), .v (.int .i64 p.zone), .v (.slice A1 p.wher.length c1), .v (.int .i64 p.w), .v (.int .i64 p.h), .v (.int .i64 p.turn), .v (.int .i64 p.stars), .v (.slice A2 p.tags.length c2), .v (.string p.caption), .v (.slice A3 p.people.length c3), .v (.bool p.hidden)]) ++ spare'.map C1.v) = (css ++ [phoC p A1 c1 A2 c2 A3 c3]).flatten.map C1.v ++ spare'.map C1.v := by
          rw [List.map_append, List.map_append, ren_vals, ren_vals, List.flatten_append, List.map_append]; rfl
        exact congrArg (fun l => [(⟨some β6, 127, l, true⟩ : Bx)]) e6
      · rw [hl1, List.flatten_append, List.map_append]; exact hrow2
      · rw [htake]; exact hrows.snoc hpr0
    · rw [hh, if_neg (by simp), List.append_nil] at htake
      refine vc_arith 100 rfl rfl rfl rfl rfl ((k + 1 : Nat) : Int) (wr (by omega) (by omega) (by omega)) ?_
      refine vc_fin 100 rfl ⟨l.length - (k + 1), [0], by omega, rfl, k + 1, css, spare, blk, cap, by omega, rfl, ?_, ?_, rfl, ?_, ?_⟩
      · rw [htake]; rfl
      · have e6 : List.map (ren [0]) (css.flatten.map C1.v ++ spare.map C1.v) = css.flatten.map C1.v ++ spare.map C1.v := by rw [List.map_append, ren_vals, ren_vals]
        exact congrArg (fun l => [(⟨blk, 127, l, true⟩ : Bx)]) e6
      · rw [htake]; exact hrow
      · rw [htake]; exact hrows
  · have hkn : k = l.length := by have := of_decide_eq_false h0; omega
    subst hkn
    rw [List.take_length] at *
    cases blk with
    | none =>
      have hc0 := hrow.2.2.2.2 rfl
      subst hc0
      have hf0 : l.filter h = [] := List.eq_nil_of_length_eq_zero (by have := hrow.2.1; omega)
      rw [hf0]
      refine vc_ret0 100 rfl rfl ?_
      exact ⟨⟨none, 0, rfl, by simp, fun j p hj => by simp [nth] at hj⟩, .inl ⟨_, _, rfl⟩⟩
    | some β =>
      refine vc_ret 100 rfl rfl fun g' hle hpub => ?_
      exact ⟨rows_phos (hrows.mono hle) hpub (i := 0) rfl hrow.2.1 (by have := hrow.2.2.1; simp only [maxLen] at this; omega), .inr ⟨_, _, _, _, rfl⟩⟩
theorem holding_ct (v nv : Value) (l : List Pho) (h : Pho → Bool) (g : Gh) (hv : PhosV g v l) (hn : ∀ p ∈ l, PhoN p) (hl : l.length ≤ 1000) (hnode : NodeOk g nv h) :
    Ct Tryz.prog 61 [v, nv] g (fun r g' => PhosV g' r (l.filter h)) := (holdingP_ct v nv l h g hv hn hl hnode).mono fun _ _ _ h => h.1

end Go.Proofs.YtmolncgdehfejaaGreatDoor

/- The resolved forms of the functions that sort and ask, and the closed facts on them. Printed by wip/gen.py. -/
namespace Go.Proofs.YtmolncgdehfejaaGreatDoor
open Go
set_option maxRecDepth 10000

/-- tintype/find.sorted[tintype/api.Photo] -/
def R83 : RC :=
  .seq (.reg [⟨.mv (.const (.slice none 0 0)), some 4, none⟩])
  (.seq (.reg [⟨.mv (.tmp 0), some 5, none⟩,
   ⟨.call 120 [.tmp 5], some 6, none⟩,
   ⟨.mv (.tmp 6), some 0, none⟩])
  (.seq (.reg [⟨.mv (.tmp 0), some 7, none⟩,
   ⟨.mv (.tmp 1), some 8, none⟩,
   ⟨.call 121 [.tmp 7, .tmp 8], some 9, none⟩])
  (.seq (.reg [⟨.mv (.tmp 0), some 10, none⟩,
   ⟨.call 88 [.tmp 10], some 11, none⟩,
   ⟨.mv (.tmp 11), some 4, none⟩])
  (.ret))))
theorem ok83 : FnOk Tryz.prog 83 12 R83 [.t 4] := ⟨_, _, rfl, rfl, rfl, by kernel_rfl, by kernel_rfl⟩

/-- slices.Clip[[]tintype/api.Photo,tintype/api.Photo] -/
def R88 : RC :=
  .seq (.reg [⟨.mv (.const (.slice none 0 0)), some 2, none⟩])
  (.seq (.reg [⟨.mv (.tmp 0), some 3, none⟩,
   ⟨.mv (.tmp 0), some 4, none⟩,
   ⟨.len (.tmp 4), some 5, none⟩,
   ⟨.mv (.tmp 0), some 6, none⟩,
   ⟨.len (.tmp 6), some 7, none⟩,
   ⟨.sl 13 (.tmp 3) none (some (.tmp 5)) (some (.tmp 7)), some 8, none⟩,
   ⟨.mv (.tmp 8), some 2, none⟩])
  (.ret))
theorem ok88 : FnOk Tryz.prog 88 9 R88 [.t 2] := ⟨_, _, rfl, rfl, rfl, by kernel_rfl, by kernel_rfl⟩

/-- slices.Clone[[]tintype/api.Photo,tintype/api.Photo] -/
def R120 : RC :=
  .seq (.reg [⟨.mv (.const (.slice none 0 0)), some 2, none⟩])
  (.seq (.seq (.reg [⟨.mv (.tmp 0), some 3, none⟩,
   ⟨.raw (Op.binOp BinOp.eql 22 (Operand.tmp 3) (Operand.const (Value.slice none 0 0)) 22) 4, some 4, none⟩])
  (.cond (.tmp 4) (.seq (.reg [⟨.mv (.const (.slice none 0 0)), some 2, none⟩])
    (.ret))
  (.skip)))
  (.seq (.reg [⟨.bslice 127 13 0 [.int .i64 0, .string ⟨#[]⟩, .int .i64 0, .int .i64 0, .slice none 0 0, .int .i64 0, .int .i64 0, .int .i64 0, .int .i64 0, .slice none 0 0, .string ⟨#[]⟩, .slice none 0 0, .bool false] [], some 5, none⟩,
   ⟨.mv (.tmp 0), some 6, none⟩,
   ⟨.append 127 13 168 (.agg #[.int .i64 0, .string ⟨#[]⟩, .int .i64 0, .int .i64 0, .slice none 0 0, .int .i64 0, .int .i64 0, .int .i64 0, .int .i64 0, .slice none 0 0, .string ⟨#[]⟩, .slice none 0 0, .bool false]) (.tmp 5) (.tmp 6), some 7, none⟩,
   ⟨.mv (.tmp 7), some 2, none⟩])
  (.ret)))
theorem ok120 : FnOk Tryz.prog 120 8 R120 [.t 2] := ⟨_, _, rfl, rfl, rfl, by kernel_rfl, by kernel_rfl⟩

/-- slices.SortStableFunc[[]tintype/api.Photo,tintype/api.Photo] -/
def R121 : RC :=
  .reg [⟨.mv (.tmp 0), some 4, none⟩,
   ⟨.mv (.tmp 0), some 5, none⟩,
   ⟨.len (.tmp 5), some 6, none⟩,
   ⟨.mv (.tmp 1), some 7, none⟩,
   ⟨.call 176 [.tmp 4, .tmp 6, .tmp 7], some 8, none⟩]
theorem ok121 : FnOk Tryz.prog 121 9 R121 [] := ⟨_, _, rfl, rfl, rfl, by kernel_rfl, by kernel_rfl⟩

/-- slices.stableCmpFunc[tintype/api.Photo] -/
def R176 : RC :=
  .seq (.reg [⟨.mv (.const (.int .i64 20)), some 6, none⟩])
  (.seq (.reg [⟨.mv (.tmp 6), some 10, none⟩,
   ⟨.mv (.const (.int .i64 0)), some 7, none⟩,
   ⟨.mv (.tmp 10), some 8, none⟩])
  (.seq (.blk 0 (.loop (.seq (.seq (.reg [⟨.mv (.tmp 8), some 11, none⟩,
       ⟨.mv (.tmp 1), some 12, none⟩,
       ⟨.bin .leq (.tmp 11) (.tmp 12), some 13, none⟩])
      (.cond (.tmp 13) (.skip)
      (.exit 0)))
      (.blk 1 (.seq (.reg [⟨.mv (.tmp 0), some 14, none⟩,
         ⟨.mv (.tmp 7), some 15, none⟩,
         ⟨.mv (.tmp 8), some 16, none⟩,
         ⟨.mv (.tmp 2), some 17, none⟩,
         ⟨.call 211 [.tmp 14, .tmp 15, .tmp 16, .tmp 17], some 18, none⟩])
        (.seq (.reg [⟨.mv (.tmp 8), some 19, none⟩,
         ⟨.mv (.tmp 19), some 7, none⟩])
        (.reg [⟨.mv (.tmp 8), some 20, none⟩,
         ⟨.mv (.tmp 6), some 21, none⟩,
         ⟨.bin .add (.tmp 20) (.tmp 21), some 22, none⟩,
         ⟨.mv (.tmp 22), some 8, none⟩])))))))
  (.seq (.reg [⟨.mv (.tmp 0), some 23, none⟩,
   ⟨.mv (.tmp 7), some 24, none⟩,
   ⟨.mv (.tmp 1), some 25, none⟩,
   ⟨.mv (.tmp 2), some 26, none⟩,
   ⟨.call 211 [.tmp 23, .tmp 24, .tmp 25, .tmp 26], some 27, none⟩])
  (.blk 2 (.loop (.seq (.seq (.reg [⟨.mv (.tmp 6), some 28, none⟩,
       ⟨.mv (.tmp 1), some 29, none⟩,
       ⟨.bin .lss (.tmp 28) (.tmp 29), some 30, none⟩])
      (.cond (.tmp 30) (.skip)
      (.exit 2)))
      (.blk 3 (.seq (.reg [⟨.mv (.tmp 6), some 31, none⟩,
         ⟨.bin .mul (.const (.int .i64 2)) (.tmp 31), some 32, none⟩,
         ⟨.mv (.const (.int .i64 0)), some 7, none⟩,
         ⟨.mv (.tmp 32), some 8, none⟩])
        (.seq (.blk 4 (.loop (.seq (.seq (.reg [⟨.mv (.tmp 8), some 33, none⟩,
             ⟨.mv (.tmp 1), some 34, none⟩,
             ⟨.bin .leq (.tmp 33) (.tmp 34), some 35, none⟩])
            (.cond (.tmp 35) (.skip)
            (.exit 4)))
            (.blk 5 (.seq (.reg [⟨.mv (.tmp 0), some 36, none⟩,
               ⟨.mv (.tmp 7), some 37, none⟩,
               ⟨.mv (.tmp 7), some 38, none⟩,
               ⟨.mv (.tmp 6), some 39, none⟩,
               ⟨.bin .add (.tmp 38) (.tmp 39), some 40, none⟩,
               ⟨.mv (.tmp 8), some 41, none⟩,
               ⟨.mv (.tmp 2), some 42, none⟩,
               ⟨.call 212 [.tmp 36, .tmp 37, .tmp 40, .tmp 41, .tmp 42], some 43, none⟩])
              (.seq (.reg [⟨.mv (.tmp 8), some 44, none⟩,
               ⟨.mv (.tmp 44), some 7, none⟩])
              (.reg [⟨.mv (.tmp 8), some 45, none⟩,
               ⟨.mv (.tmp 6), some 46, none⟩,
               ⟨.bin .mul (.const (.int .i64 2)) (.tmp 46), some 47, none⟩,
               ⟨.bin .add (.tmp 45) (.tmp 47), some 48, none⟩,
               ⟨.mv (.tmp 48), some 8, none⟩])))))))
        (.seq (.seq (.reg [⟨.mv (.tmp 7), some 49, none⟩,
         ⟨.mv (.tmp 6), some 50, none⟩,
         ⟨.bin .add (.tmp 49) (.tmp 50), some 51, none⟩,
         ⟨.mv (.tmp 51), some 9, none⟩])
        (.seq (.reg [⟨.mv (.tmp 9), some 52, none⟩,
         ⟨.mv (.tmp 1), some 53, none⟩,
         ⟨.bin .lss (.tmp 52) (.tmp 53), some 54, none⟩])
        (.cond (.tmp 54) (.reg [⟨.mv (.tmp 0), some 55, none⟩,
           ⟨.mv (.tmp 7), some 56, none⟩,
           ⟨.mv (.tmp 9), some 57, none⟩,
           ⟨.mv (.tmp 1), some 58, none⟩,
           ⟨.mv (.tmp 2), some 59, none⟩,
           ⟨.call 212 [.tmp 55, .tmp 56, .tmp 57, .tmp 58, .tmp 59], some 60, none⟩])
        (.skip))))
        (.reg [⟨.mv (.tmp 6), some 61, none⟩,
         ⟨.bin .mul (.tmp 61) (.const (.int .i64 2)), some 62, none⟩,
         ⟨.mv (.tmp 62), some 6, none⟩])))))))))))
theorem ok176 : FnOk Tryz.prog 176 63 R176 [] := ⟨_, _, rfl, rfl, rfl, by kernel_rfl, by kernel_rfl⟩

/-- slices.insertionSortCmpFunc[tintype/api.Photo] -/
def R211 : RC :=
  .seq (.reg [⟨.mv (.tmp 1), some 10, none⟩,
   ⟨.bin .add (.tmp 10) (.const (.int .i64 1)), some 11, none⟩,
   ⟨.mv (.tmp 11), some 8, none⟩])
  (.blk 0 (.loop (.seq (.seq (.reg [⟨.mv (.tmp 8), some 12, none⟩,
       ⟨.mv (.tmp 2), some 13, none⟩,
       ⟨.bin .lss (.tmp 12) (.tmp 13), some 14, none⟩])
      (.cond (.tmp 14) (.skip)
      (.exit 0)))
      (.seq (.blk 1 (.seq (.reg [⟨.mv (.tmp 8), some 17, none⟩,
         ⟨.mv (.tmp 17), some 9, none⟩])
        (.blk 2 (.loop (.seq (.seq (.drw [⟨.mv (.tmp 9), some 18, none⟩,
             ⟨.mv (.tmp 1), some 19, none⟩,
             ⟨.bin .gtr (.tmp 18) (.tmp 19), some 20, none⟩,
             ⟨.mv (.tmp 20), some 21, none⟩,
             ⟨.mv (.tmp 3), some 22, some (21, true)⟩,
             ⟨.mv (.tmp 0), some 23, some (21, true)⟩,
             ⟨.mv (.tmp 9), some 24, some (21, true)⟩,
             ⟨.ia 13 (.tmp 23) (.tmp 24), some 25, some (21, true)⟩,
             ⟨.ldn 13 (.tmp 25), some 26, some (21, true)⟩,
             ⟨.mv (.tmp 0), some 27, some (21, true)⟩,
             ⟨.mv (.tmp 9), some 28, some (21, true)⟩,
             ⟨.bin .sub (.tmp 28) (.const (.int .i64 1)), some 29, some (21, true)⟩,
             ⟨.ia 13 (.tmp 27) (.tmp 29), some 30, some (21, true)⟩,
             ⟨.ldn 13 (.tmp 30), some 31, some (21, true)⟩,
             ⟨.callv (.tmp 22) [.tmp 26, .tmp 31], some 32, some (21, true)⟩,
             ⟨.bin .lss (.tmp 32) (.const (.int .i64 0)), some 33, some (21, true)⟩,
             ⟨.pick (.tmp 21) (.tmp 33) (.const (.bool false)), some 34, none⟩] [[], [], [0, 1], [2], [3], [3], [3], [5, 6, 3], [7, 3], [3], [3], [10, 3], [9, 11, 3], [12, 3], [4, 8, 13, 3, 3], [14, 3], [3, 15]])
            (.cond (.tmp 34) (.skip)
            (.exit 2)))
            (.seq (.blk 3 (.drw [⟨.mv (.tmp 0), some 37, none⟩,
               ⟨.mv (.tmp 9), some 38, none⟩,
               ⟨.mv (.tmp 0), some 39, none⟩,
               ⟨.mv (.tmp 9), some 40, none⟩,
               ⟨.bin .sub (.tmp 40) (.const (.int .i64 1)), some 41, none⟩,
               ⟨.mv (.tmp 0), some 42, none⟩,
               ⟨.mv (.tmp 9), some 43, none⟩,
               ⟨.bin .sub (.tmp 43) (.const (.int .i64 1)), some 44, none⟩,
               ⟨.ia 13 (.tmp 42) (.tmp 44), some 45, none⟩,
               ⟨.ldn 13 (.tmp 45), some 46, none⟩,
               ⟨.mv (.tmp 0), some 47, none⟩,
               ⟨.mv (.tmp 9), some 48, none⟩,
               ⟨.ia 13 (.tmp 47) (.tmp 48), some 49, none⟩,
               ⟨.ldn 13 (.tmp 49), some 50, none⟩,
               ⟨.ia 13 (.tmp 37) (.tmp 38), some 51, none⟩,
               ⟨.stn 13 (.tmp 51) (.tmp 46), none, none⟩,
               ⟨.ia 13 (.tmp 39) (.tmp 41), some 52, none⟩,
               ⟨.stn 13 (.tmp 52) (.tmp 50), none, none⟩] [[], [], [], [], [3], [], [], [6], [5, 7], [8], [], [], [10, 11], [12], [0, 1, 0, 1, 5, 6, 7, 8, 9, 13], [14, 9, 0, 1, 5, 6, 7, 8, 9, 13], [2, 4, 0, 1, 2, 3, 4, 5, 6, 7, 8, 9, 10, 11, 12, 13, 14, 15], [16, 13, 15, 0, 1, 2, 3, 4, 5, 6, 7, 8, 9, 10, 11, 12, 13, 14, 15]]))
            (.reg [⟨.mv (.tmp 9), some 35, none⟩,
             ⟨.bin .sub (.tmp 35) (.const (.int .i64 1)), some 36, none⟩,
             ⟨.mv (.tmp 36), some 9, none⟩])))))))
      (.reg [⟨.mv (.tmp 8), some 15, none⟩,
       ⟨.bin .add (.tmp 15) (.const (.int .i64 1)), some 16, none⟩,
       ⟨.mv (.tmp 16), some 8, none⟩])))))
theorem ok211 : FnOk Tryz.prog 211 53 R211 [] := ⟨_, _, rfl, rfl, rfl, by kernel_rfl, by kernel_rfl⟩

/-- slices.symMergeCmpFunc[tintype/api.Photo] -/
def R212 : RC :=
  .seq (.seq (.reg [⟨.mv (.tmp 2), some 25, none⟩,
   ⟨.mv (.tmp 1), some 26, none⟩,
   ⟨.bin .sub (.tmp 25) (.tmp 26), some 27, none⟩,
   ⟨.bin .eql (.tmp 27) (.const (.int .i64 1)), some 28, none⟩])
  (.cond (.tmp 28) (.seq (.reg [⟨.mv (.tmp 2), some 29, none⟩,
     ⟨.mv (.tmp 29), some 10, none⟩])
    (.seq (.reg [⟨.mv (.tmp 3), some 30, none⟩,
     ⟨.mv (.tmp 30), some 11, none⟩])
    (.seq (.blk 0 (.loop (.seq (.seq (.reg [⟨.mv (.tmp 10), some 31, none⟩,
         ⟨.mv (.tmp 11), some 32, none⟩,
         ⟨.bin .lss (.tmp 31) (.tmp 32), some 33, none⟩])
        (.cond (.tmp 33) (.skip)
        (.exit 0)))
        (.blk 1 (.seq (.reg [⟨.mv (.tmp 10), some 34, none⟩,
           ⟨.mv (.tmp 11), some 35, none⟩,
           ⟨.bin .add (.tmp 34) (.tmp 35), some 36, none⟩,
           ⟨.convi .u64 (.tmp 36), some 37, none⟩,
           ⟨.bin .shr (.tmp 37) (.const (.int .u64 1)), some 38, none⟩,
           ⟨.convi .i64 (.tmp 38), some 39, none⟩,
           ⟨.mv (.tmp 39), some 12, none⟩])
          (.seq (.drw [⟨.mv (.tmp 4), some 40, none⟩,
           ⟨.mv (.tmp 0), some 41, none⟩,
           ⟨.mv (.tmp 12), some 42, none⟩,
           ⟨.ia 13 (.tmp 41) (.tmp 42), some 43, none⟩,
           ⟨.ldn 13 (.tmp 43), some 44, none⟩,
           ⟨.mv (.tmp 0), some 45, none⟩,
           ⟨.mv (.tmp 1), some 46, none⟩,
           ⟨.ia 13 (.tmp 45) (.tmp 46), some 47, none⟩,
           ⟨.ldn 13 (.tmp 47), some 48, none⟩,
           ⟨.callv (.tmp 40) [.tmp 44, .tmp 48], some 49, none⟩,
           ⟨.bin .lss (.tmp 49) (.const (.int .i64 0)), some 50, none⟩] [[], [], [], [1, 2], [3], [], [], [5, 6], [7], [0, 4, 8], [9]])
          (.cond (.tmp 50) (.reg [⟨.mv (.tmp 12), some 51, none⟩,
             ⟨.bin .add (.tmp 51) (.const (.int .i64 1)), some 52, none⟩,
             ⟨.mv (.tmp 52), some 10, none⟩])
          (.reg [⟨.mv (.tmp 12), some 53, none⟩,
             ⟨.mv (.tmp 53), some 11, none⟩]))))))))
    (.seq (.seq (.reg [⟨.mv (.tmp 1), some 54, none⟩,
     ⟨.mv (.tmp 54), some 13, none⟩])
    (.blk 2 (.loop (.seq (.seq (.reg [⟨.mv (.tmp 13), some 55, none⟩,
         ⟨.mv (.tmp 10), some 56, none⟩,
         ⟨.bin .sub (.tmp 56) (.const (.int .i64 1)), some 57, none⟩,
         ⟨.bin .lss (.tmp 55) (.tmp 57), some 58, none⟩])
        (.cond (.tmp 58) (.skip)
        (.exit 2)))
        (.seq (.blk 3 (.drw [⟨.mv (.tmp 0), some 61, none⟩,
           ⟨.mv (.tmp 13), some 62, none⟩,
           ⟨.mv (.tmp 0), some 63, none⟩,
           ⟨.mv (.tmp 13), some 64, none⟩,
           ⟨.bin .add (.tmp 64) (.const (.int .i64 1)), some 65, none⟩,
           ⟨.mv (.tmp 0), some 66, none⟩,
           ⟨.mv (.tmp 13), some 67, none⟩,
           ⟨.bin .add (.tmp 67) (.const (.int .i64 1)), some 68, none⟩,
           ⟨.ia 13 (.tmp 66) (.tmp 68), some 69, none⟩,
           ⟨.ldn 13 (.tmp 69), some 70, none⟩,
           ⟨.mv (.tmp 0), some 71, none⟩,
           ⟨.mv (.tmp 13), some 72, none⟩,
           ⟨.ia 13 (.tmp 71) (.tmp 72), some 73, none⟩,
           ⟨.ldn 13 (.tmp 73), some 74, none⟩,
           ⟨.ia 13 (.tmp 61) (.tmp 62), some 75, none⟩,
           ⟨.stn 13 (.tmp 75) (.tmp 70), none, none⟩,
           ⟨.ia 13 (.tmp 63) (.tmp 65), some 76, none⟩,
           ⟨.stn 13 (.tmp 76) (.tmp 74), none, none⟩] [[], [], [], [], [3], [], [], [6], [5, 7], [8], [], [], [10, 11], [12], [0, 1, 0, 1, 5, 6, 7, 8, 9, 13], [14, 9, 0, 1, 5, 6, 7, 8, 9, 13], [2, 4, 0, 1, 2, 3, 4, 5, 6, 7, 8, 9, 10, 11, 12, 13, 14, 15], [16, 13, 15, 0, 1, 2, 3, 4, 5, 6, 7, 8, 9, 10, 11, 12, 13, 14, 15]]))
        (.reg [⟨.mv (.tmp 13), some 59, none⟩,
         ⟨.bin .add (.tmp 59) (.const (.int .i64 1)), some 60, none⟩,
         ⟨.mv (.tmp 60), some 13, none⟩]))))))
    (.ret)))))
  (.skip)))
  (.seq (.seq (.reg [⟨.mv (.tmp 3), some 77, none⟩,
   ⟨.mv (.tmp 2), some 78, none⟩,
   ⟨.bin .sub (.tmp 77) (.tmp 78), some 79, none⟩,
   ⟨.bin .eql (.tmp 79) (.const (.int .i64 1)), some 80, none⟩])
  (.cond (.tmp 80) (.seq (.reg [⟨.mv (.tmp 1), some 81, none⟩,
     ⟨.mv (.tmp 81), some 14, none⟩])
    (.seq (.reg [⟨.mv (.tmp 2), some 82, none⟩,
     ⟨.mv (.tmp 82), some 15, none⟩])
    (.seq (.blk 4 (.loop (.seq (.seq (.reg [⟨.mv (.tmp 14), some 83, none⟩,
         ⟨.mv (.tmp 15), some 84, none⟩,
         ⟨.bin .lss (.tmp 83) (.tmp 84), some 85, none⟩])
        (.cond (.tmp 85) (.skip)
        (.exit 4)))
        (.blk 5 (.seq (.reg [⟨.mv (.tmp 14), some 86, none⟩,
           ⟨.mv (.tmp 15), some 87, none⟩,
           ⟨.bin .add (.tmp 86) (.tmp 87), some 88, none⟩,
           ⟨.convi .u64 (.tmp 88), some 89, none⟩,
           ⟨.bin .shr (.tmp 89) (.const (.int .u64 1)), some 90, none⟩,
           ⟨.convi .i64 (.tmp 90), some 91, none⟩,
           ⟨.mv (.tmp 91), some 16, none⟩])
          (.seq (.drw [⟨.mv (.tmp 4), some 92, none⟩,
           ⟨.mv (.tmp 0), some 93, none⟩,
           ⟨.mv (.tmp 2), some 94, none⟩,
           ⟨.ia 13 (.tmp 93) (.tmp 94), some 95, none⟩,
           ⟨.ldn 13 (.tmp 95), some 96, none⟩,
           ⟨.mv (.tmp 0), some 97, none⟩,
           ⟨.mv (.tmp 16), some 98, none⟩,
           ⟨.ia 13 (.tmp 97) (.tmp 98), some 99, none⟩,
           ⟨.ldn 13 (.tmp 99), some 100, none⟩,
           ⟨.callv (.tmp 92) [.tmp 96, .tmp 100], some 101, none⟩,
           ⟨.bin .lss (.tmp 101) (.const (.int .i64 0)), some 102, none⟩,
           ⟨.un .not (.tmp 102), some 103, none⟩] [[], [], [], [1, 2], [3], [], [], [5, 6], [7], [0, 4, 8], [9], [10]])
          (.cond (.tmp 103) (.reg [⟨.mv (.tmp 16), some 104, none⟩,
             ⟨.bin .add (.tmp 104) (.const (.int .i64 1)), some 105, none⟩,
             ⟨.mv (.tmp 105), some 14, none⟩])
          (.reg [⟨.mv (.tmp 16), some 106, none⟩,
             ⟨.mv (.tmp 106), some 15, none⟩]))))))))
    (.seq (.seq (.reg [⟨.mv (.tmp 2), some 107, none⟩,
     ⟨.mv (.tmp 107), some 17, none⟩])
    (.blk 6 (.loop (.seq (.seq (.reg [⟨.mv (.tmp 17), some 108, none⟩,
         ⟨.mv (.tmp 14), some 109, none⟩,
         ⟨.bin .gtr (.tmp 108) (.tmp 109), some 110, none⟩])
        (.cond (.tmp 110) (.skip)
        (.exit 6)))
        (.seq (.blk 7 (.drw [⟨.mv (.tmp 0), some 113, none⟩,
           ⟨.mv (.tmp 17), some 114, none⟩,
           ⟨.mv (.tmp 0), some 115, none⟩,
           ⟨.mv (.tmp 17), some 116, none⟩,
           ⟨.bin .sub (.tmp 116) (.const (.int .i64 1)), some 117, none⟩,
           ⟨.mv (.tmp 0), some 118, none⟩,
           ⟨.mv (.tmp 17), some 119, none⟩,
           ⟨.bin .sub (.tmp 119) (.const (.int .i64 1)), some 120, none⟩,
           ⟨.ia 13 (.tmp 118) (.tmp 120), some 121, none⟩,
           ⟨.ldn 13 (.tmp 121), some 122, none⟩,
           ⟨.mv (.tmp 0), some 123, none⟩,
           ⟨.mv (.tmp 17), some 124, none⟩,
           ⟨.ia 13 (.tmp 123) (.tmp 124), some 125, none⟩,
           ⟨.ldn 13 (.tmp 125), some 126, none⟩,
           ⟨.ia 13 (.tmp 113) (.tmp 114), some 127, none⟩,
           ⟨.stn 13 (.tmp 127) (.tmp 122), none, none⟩,
           ⟨.ia 13 (.tmp 115) (.tmp 117), some 128, none⟩,
           ⟨.stn 13 (.tmp 128) (.tmp 126), none, none⟩] [[], [], [], [], [3], [], [], [6], [5, 7], [8], [], [], [10, 11], [12], [0, 1, 0, 1, 5, 6, 7, 8, 9, 13], [14, 9, 0, 1, 5, 6, 7, 8, 9, 13], [2, 4, 0, 1, 2, 3, 4, 5, 6, 7, 8, 9, 10, 11, 12, 13, 14, 15], [16, 13, 15, 0, 1, 2, 3, 4, 5, 6, 7, 8, 9, 10, 11, 12, 13, 14, 15]]))
        (.reg [⟨.mv (.tmp 17), some 111, none⟩,
         ⟨.bin .sub (.tmp 111) (.const (.int .i64 1)), some 112, none⟩,
         ⟨.mv (.tmp 112), some 17, none⟩]))))))
    (.ret)))))
  (.skip)))
  (.seq (.reg [⟨.mv (.tmp 1), some 129, none⟩,
   ⟨.mv (.tmp 3), some 130, none⟩,
   ⟨.bin .add (.tmp 129) (.tmp 130), some 131, none⟩,
   ⟨.convi .u64 (.tmp 131), some 132, none⟩,
   ⟨.bin .shr (.tmp 132) (.const (.int .u64 1)), some 133, none⟩,
   ⟨.convi .i64 (.tmp 133), some 134, none⟩,
   ⟨.mv (.tmp 134), some 18, none⟩])
  (.seq (.reg [⟨.mv (.tmp 18), some 135, none⟩,
   ⟨.mv (.tmp 2), some 136, none⟩,
   ⟨.bin .add (.tmp 135) (.tmp 136), some 137, none⟩,
   ⟨.mv (.tmp 137), some 19, none⟩])
  (.seq (.reg [⟨.mv (.const (.int .i64 0)), some 20, none⟩,
   ⟨.mv (.const (.int .i64 0)), some 21, none⟩])
  (.seq (.seq (.reg [⟨.mv (.tmp 2), some 138, none⟩,
   ⟨.mv (.tmp 18), some 139, none⟩,
   ⟨.bin .gtr (.tmp 138) (.tmp 139), some 140, none⟩])
  (.cond (.tmp 140) (.seq (.reg [⟨.mv (.tmp 19), some 141, none⟩,
     ⟨.mv (.tmp 3), some 142, none⟩,
     ⟨.bin .sub (.tmp 141) (.tmp 142), some 143, none⟩,
     ⟨.mv (.tmp 143), some 20, none⟩])
    (.reg [⟨.mv (.tmp 18), some 144, none⟩,
     ⟨.mv (.tmp 144), some 21, none⟩]))
  (.seq (.reg [⟨.mv (.tmp 1), some 145, none⟩,
     ⟨.mv (.tmp 145), some 20, none⟩])
    (.reg [⟨.mv (.tmp 2), some 146, none⟩,
     ⟨.mv (.tmp 146), some 21, none⟩]))))
  (.seq (.reg [⟨.mv (.tmp 19), some 147, none⟩,
   ⟨.bin .sub (.tmp 147) (.const (.int .i64 1)), some 148, none⟩,
   ⟨.mv (.tmp 148), some 22, none⟩])
  (.seq (.blk 8 (.loop (.seq (.seq (.reg [⟨.mv (.tmp 20), some 149, none⟩,
       ⟨.mv (.tmp 21), some 150, none⟩,
       ⟨.bin .lss (.tmp 149) (.tmp 150), some 151, none⟩])
      (.cond (.tmp 151) (.skip)
      (.exit 8)))
      (.blk 9 (.seq (.reg [⟨.mv (.tmp 20), some 152, none⟩,
         ⟨.mv (.tmp 21), some 153, none⟩,
         ⟨.bin .add (.tmp 152) (.tmp 153), some 154, none⟩,
         ⟨.convi .u64 (.tmp 154), some 155, none⟩,
         ⟨.bin .shr (.tmp 155) (.const (.int .u64 1)), some 156, none⟩,
         ⟨.convi .i64 (.tmp 156), some 157, none⟩,
         ⟨.mv (.tmp 157), some 23, none⟩])
        (.seq (.drw [⟨.mv (.tmp 4), some 158, none⟩,
         ⟨.mv (.tmp 0), some 159, none⟩,
         ⟨.mv (.tmp 22), some 160, none⟩,
         ⟨.mv (.tmp 23), some 161, none⟩,
         ⟨.bin .sub (.tmp 160) (.tmp 161), some 162, none⟩,
         ⟨.ia 13 (.tmp 159) (.tmp 162), some 163, none⟩,
         ⟨.ldn 13 (.tmp 163), some 164, none⟩,
         ⟨.mv (.tmp 0), some 165, none⟩,
         ⟨.mv (.tmp 23), some 166, none⟩,
         ⟨.ia 13 (.tmp 165) (.tmp 166), some 167, none⟩,
         ⟨.ldn 13 (.tmp 167), some 168, none⟩,
         ⟨.callv (.tmp 158) [.tmp 164, .tmp 168], some 169, none⟩,
         ⟨.bin .lss (.tmp 169) (.const (.int .i64 0)), some 170, none⟩,
         ⟨.un .not (.tmp 170), some 171, none⟩] [[], [], [], [], [2, 3], [1, 4], [5], [], [], [7, 8], [9], [0, 6, 10], [11], [12]])
        (.cond (.tmp 171) (.reg [⟨.mv (.tmp 23), some 172, none⟩,
           ⟨.bin .add (.tmp 172) (.const (.int .i64 1)), some 173, none⟩,
           ⟨.mv (.tmp 173), some 20, none⟩])
        (.reg [⟨.mv (.tmp 23), some 174, none⟩,
           ⟨.mv (.tmp 174), some 21, none⟩]))))))))
  (.seq (.reg [⟨.mv (.tmp 19), some 175, none⟩,
   ⟨.mv (.tmp 20), some 176, none⟩,
   ⟨.bin .sub (.tmp 175) (.tmp 176), some 177, none⟩,
   ⟨.mv (.tmp 177), some 24, none⟩])
  (.seq (.seq (.reg [⟨.mv (.tmp 20), some 178, none⟩,
   ⟨.mv (.tmp 2), some 179, none⟩,
   ⟨.bin .lss (.tmp 178) (.tmp 179), some 180, none⟩,
   ⟨.mv (.tmp 180), some 181, none⟩,
   ⟨.mv (.tmp 2), some 182, some (181, true)⟩,
   ⟨.mv (.tmp 24), some 183, some (181, true)⟩,
   ⟨.bin .lss (.tmp 182) (.tmp 183), some 184, some (181, true)⟩,
   ⟨.pick (.tmp 181) (.tmp 184) (.const (.bool false)), some 185, none⟩])
  (.cond (.tmp 185) (.reg [⟨.mv (.tmp 0), some 186, none⟩,
     ⟨.mv (.tmp 20), some 187, none⟩,
     ⟨.mv (.tmp 2), some 188, none⟩,
     ⟨.mv (.tmp 24), some 189, none⟩,
     ⟨.mv (.tmp 4), some 190, none⟩,
     ⟨.call 244 [.tmp 186, .tmp 187, .tmp 188, .tmp 189, .tmp 190], some 191, none⟩])
  (.skip)))
  (.seq (.seq (.reg [⟨.mv (.tmp 1), some 192, none⟩,
   ⟨.mv (.tmp 20), some 193, none⟩,
   ⟨.bin .lss (.tmp 192) (.tmp 193), some 194, none⟩,
   ⟨.mv (.tmp 194), some 195, none⟩,
   ⟨.mv (.tmp 20), some 196, some (195, true)⟩,
   ⟨.mv (.tmp 18), some 197, some (195, true)⟩,
   ⟨.bin .lss (.tmp 196) (.tmp 197), some 198, some (195, true)⟩,
   ⟨.pick (.tmp 195) (.tmp 198) (.const (.bool false)), some 199, none⟩])
  (.cond (.tmp 199) (.reg [⟨.mv (.tmp 0), some 200, none⟩,
     ⟨.mv (.tmp 1), some 201, none⟩,
     ⟨.mv (.tmp 20), some 202, none⟩,
     ⟨.mv (.tmp 18), some 203, none⟩,
     ⟨.mv (.tmp 4), some 204, none⟩,
     ⟨.call 212 [.tmp 200, .tmp 201, .tmp 202, .tmp 203, .tmp 204], some 205, none⟩])
  (.skip)))
  (.seq (.reg [⟨.mv (.tmp 18), some 206, none⟩,
   ⟨.mv (.tmp 24), some 207, none⟩,
   ⟨.bin .lss (.tmp 206) (.tmp 207), some 208, none⟩,
   ⟨.mv (.tmp 208), some 209, none⟩,
   ⟨.mv (.tmp 24), some 210, some (209, true)⟩,
   ⟨.mv (.tmp 3), some 211, some (209, true)⟩,
   ⟨.bin .lss (.tmp 210) (.tmp 211), some 212, some (209, true)⟩,
   ⟨.pick (.tmp 209) (.tmp 212) (.const (.bool false)), some 213, none⟩])
  (.cond (.tmp 213) (.reg [⟨.mv (.tmp 0), some 214, none⟩,
     ⟨.mv (.tmp 18), some 215, none⟩,
     ⟨.mv (.tmp 24), some 216, none⟩,
     ⟨.mv (.tmp 3), some 217, none⟩,
     ⟨.mv (.tmp 4), some 218, none⟩,
     ⟨.call 212 [.tmp 214, .tmp 215, .tmp 216, .tmp 217, .tmp 218], some 219, none⟩])
  (.skip)))))))))))))
theorem ok212 : FnOk Tryz.prog 212 220 R212 [] := ⟨_, _, rfl, rfl, rfl, by kernel_rfl, by kernel_rfl⟩

/-- slices.rotateCmpFunc[tintype/api.Photo] -/
def R244 : RC :=
  .seq (.reg [⟨.mv (.tmp 2), some 12, none⟩,
   ⟨.mv (.tmp 1), some 13, none⟩,
   ⟨.bin .sub (.tmp 12) (.tmp 13), some 14, none⟩,
   ⟨.mv (.tmp 14), some 10, none⟩])
  (.seq (.reg [⟨.mv (.tmp 3), some 15, none⟩,
   ⟨.mv (.tmp 2), some 16, none⟩,
   ⟨.bin .sub (.tmp 15) (.tmp 16), some 17, none⟩,
   ⟨.mv (.tmp 17), some 11, none⟩])
  (.seq (.blk 0 (.loop (.seq (.seq (.reg [⟨.mv (.tmp 10), some 18, none⟩,
       ⟨.mv (.tmp 11), some 19, none⟩,
       ⟨.bin .neq (.tmp 18) (.tmp 19), some 20, none⟩])
      (.cond (.tmp 20) (.skip)
      (.exit 0)))
      (.blk 1 (.seq (.reg [⟨.mv (.tmp 10), some 21, none⟩,
         ⟨.mv (.tmp 11), some 22, none⟩,
         ⟨.bin .gtr (.tmp 21) (.tmp 22), some 23, none⟩])
        (.cond (.tmp 23) (.seq (.reg [⟨.mv (.tmp 0), some 24, none⟩,
           ⟨.mv (.tmp 2), some 25, none⟩,
           ⟨.mv (.tmp 10), some 26, none⟩,
           ⟨.bin .sub (.tmp 25) (.tmp 26), some 27, none⟩,
           ⟨.mv (.tmp 2), some 28, none⟩,
           ⟨.mv (.tmp 11), some 29, none⟩,
           ⟨.mv (.tmp 4), some 30, none⟩,
           ⟨.call 275 [.tmp 24, .tmp 27, .tmp 28, .tmp 29, .tmp 30], some 31, none⟩])
          (.reg [⟨.mv (.tmp 10), some 32, none⟩,
           ⟨.mv (.tmp 11), some 33, none⟩,
           ⟨.bin .sub (.tmp 32) (.tmp 33), some 34, none⟩,
           ⟨.mv (.tmp 34), some 10, none⟩]))
        (.seq (.reg [⟨.mv (.tmp 0), some 35, none⟩,
           ⟨.mv (.tmp 2), some 36, none⟩,
           ⟨.mv (.tmp 10), some 37, none⟩,
           ⟨.bin .sub (.tmp 36) (.tmp 37), some 38, none⟩,
           ⟨.mv (.tmp 2), some 39, none⟩,
           ⟨.mv (.tmp 11), some 40, none⟩,
           ⟨.bin .add (.tmp 39) (.tmp 40), some 41, none⟩,
           ⟨.mv (.tmp 10), some 42, none⟩,
           ⟨.bin .sub (.tmp 41) (.tmp 42), some 43, none⟩,
           ⟨.mv (.tmp 10), some 44, none⟩,
           ⟨.mv (.tmp 4), some 45, none⟩,
           ⟨.call 275 [.tmp 35, .tmp 38, .tmp 43, .tmp 44, .tmp 45], some 46, none⟩])
          (.reg [⟨.mv (.tmp 11), some 47, none⟩,
           ⟨.mv (.tmp 10), some 48, none⟩,
           ⟨.bin .sub (.tmp 47) (.tmp 48), some 49, none⟩,
           ⟨.mv (.tmp 49), some 11, none⟩]))))))))
  (.reg [⟨.mv (.tmp 0), some 50, none⟩,
   ⟨.mv (.tmp 2), some 51, none⟩,
   ⟨.mv (.tmp 10), some 52, none⟩,
   ⟨.bin .sub (.tmp 51) (.tmp 52), some 53, none⟩,
   ⟨.mv (.tmp 2), some 54, none⟩,
   ⟨.mv (.tmp 10), some 55, none⟩,
   ⟨.mv (.tmp 4), some 56, none⟩,
   ⟨.call 275 [.tmp 50, .tmp 53, .tmp 54, .tmp 55, .tmp 56], some 57, none⟩])))
theorem ok244 : FnOk Tryz.prog 244 58 R244 [] := ⟨_, _, rfl, rfl, rfl, by kernel_rfl, by kernel_rfl⟩

/-- slices.swapRangeCmpFunc[tintype/api.Photo] -/
def R275 : RC :=
  .seq (.reg [⟨.mv (.const (.int .i64 0)), some 10, none⟩])
  (.blk 0 (.loop (.seq (.seq (.reg [⟨.mv (.tmp 10), some 11, none⟩,
       ⟨.mv (.tmp 3), some 12, none⟩,
       ⟨.bin .lss (.tmp 11) (.tmp 12), some 13, none⟩])
      (.cond (.tmp 13) (.skip)
      (.exit 0)))
      (.seq (.blk 1 (.drw [⟨.mv (.tmp 0), some 16, none⟩,
         ⟨.mv (.tmp 1), some 17, none⟩,
         ⟨.mv (.tmp 10), some 18, none⟩,
         ⟨.bin .add (.tmp 17) (.tmp 18), some 19, none⟩,
         ⟨.mv (.tmp 0), some 20, none⟩,
         ⟨.mv (.tmp 2), some 21, none⟩,
         ⟨.mv (.tmp 10), some 22, none⟩,
         ⟨.bin .add (.tmp 21) (.tmp 22), some 23, none⟩,
         ⟨.mv (.tmp 0), some 24, none⟩,
         ⟨.mv (.tmp 2), some 25, none⟩,
         ⟨.mv (.tmp 10), some 26, none⟩,
         ⟨.bin .add (.tmp 25) (.tmp 26), some 27, none⟩,
         ⟨.ia 13 (.tmp 24) (.tmp 27), some 28, none⟩,
         ⟨.ldn 13 (.tmp 28), some 29, none⟩,
         ⟨.mv (.tmp 0), some 30, none⟩,
         ⟨.mv (.tmp 1), some 31, none⟩,
         ⟨.mv (.tmp 10), some 32, none⟩,
         ⟨.bin .add (.tmp 31) (.tmp 32), some 33, none⟩,
         ⟨.ia 13 (.tmp 30) (.tmp 33), some 34, none⟩,
         ⟨.ldn 13 (.tmp 34), some 35, none⟩,
         ⟨.ia 13 (.tmp 16) (.tmp 19), some 36, none⟩,
         ⟨.stn 13 (.tmp 36) (.tmp 29), none, none⟩,
         ⟨.ia 13 (.tmp 20) (.tmp 23), some 37, none⟩,
         ⟨.stn 13 (.tmp 37) (.tmp 35), none, none⟩] [[], [], [], [1, 2], [], [], [], [5, 6], [], [], [], [9, 10], [8, 11], [12], [], [], [], [15, 16], [14, 17], [18], [0, 3, 0, 1, 2, 3, 8, 9, 10, 11, 12, 13, 19], [20, 13, 0, 1, 2, 3, 8, 9, 10, 11, 12, 13, 19], [4, 7, 0, 1, 2, 3, 4, 5, 6, 7, 8, 9, 10, 11, 12, 13, 14, 15, 16, 17, 18, 19, 20, 21], [22, 19, 21, 0, 1, 2, 3, 4, 5, 6, 7, 8, 9, 10, 11, 12, 13, 14, 15, 16, 17, 18, 19, 20, 21]]))
      (.reg [⟨.mv (.tmp 10), some 14, none⟩,
       ⟨.bin .add (.tmp 14) (.const (.int .i64 1)), some 15, none⟩,
       ⟨.mv (.tmp 15), some 10, none⟩])))))
theorem ok275 : FnOk Tryz.prog 275 38 R275 [] := ⟨_, _, rfl, rfl, rfl, by kernel_rfl, by kernel_rfl⟩

/-- tintype/find.ask -/
def R55 : RC :=
  .seq (.reg [⟨.box 29 9 (.tmp 1), some 3, none⟩,
   ⟨.mv (.const (.slice none 0 0)), some 4, none⟩])
  (.seq (.reg [⟨.mv (.tmp 0), some 5, none⟩,
   ⟨.fa 0 (.tmp 3), some 6, none⟩,
   ⟨.ldn 6 (.tmp 6), some 7, none⟩,
   ⟨.call 62 [.tmp 7], some 8, none⟩,
   ⟨.call 61 [.tmp 5, .tmp 8], some 9, none⟩,
   ⟨.mkf (.func 84) [] [.tmp 3], some 10, none⟩,
   ⟨.call 83 [.tmp 9, .tmp 10], some 11, none⟩,
   ⟨.mv (.tmp 11), some 0, none⟩])
  (.seq (.reg [⟨.mv (.tmp 0), some 12, none⟩,
   ⟨.fa 7 (.tmp 3), some 13, none⟩,
   ⟨.ld1 (.tmp 13), some 14, none⟩,
   ⟨.mv (.tmp 0), some 15, none⟩,
   ⟨.len (.tmp 15), some 16, none⟩,
   ⟨.raw (Op.call { callee := Callee.builtin Builtin.min, args := #[Operand.tmp 14, Operand.tmp 16], argTypes := #[3, 3] }) 3, some 17, none⟩,
   ⟨.sl 13 (.tmp 12) (some (.tmp 17)) none none, some 18, none⟩,
   ⟨.mv (.tmp 18), some 0, none⟩])
  (.seq (.seq (.reg [⟨.fa 8 (.tmp 3), some 19, none⟩,
   ⟨.ld1 (.tmp 19), some 20, none⟩,
   ⟨.bin .gtr (.tmp 20) (.const (.int .i64 0)), some 21, none⟩])
  (.cond (.tmp 21) (.reg [⟨.mv (.tmp 0), some 22, none⟩,
     ⟨.fa 8 (.tmp 3), some 23, none⟩,
     ⟨.ld1 (.tmp 23), some 24, none⟩,
     ⟨.mv (.tmp 0), some 25, none⟩,
     ⟨.len (.tmp 25), some 26, none⟩,
     ⟨.raw (Op.call { callee := Callee.builtin Builtin.min, args := #[Operand.tmp 24, Operand.tmp 26], argTypes := #[3, 3] }) 3, some 27, none⟩,
     ⟨.sl 13 (.tmp 22) none (some (.tmp 27)) none, some 28, none⟩,
     ⟨.mv (.tmp 28), some 0, none⟩])
  (.skip)))
  (.seq (.reg [⟨.mv (.tmp 0), some 29, none⟩,
   ⟨.call 60 [.tmp 29], some 30, none⟩,
   ⟨.mv (.tmp 30), some 4, none⟩])
  (.ret)))))
theorem ok55 : FnOk Tryz.prog 55 31 R55 [.t 4] := ⟨_, _, rfl, rfl, rfl, by kernel_rfl, by kernel_rfl⟩

/-- tintype/find.ask closure 1 -/
def R84 : RC :=
  .seq (.reg [⟨.box 127 13 (.tmp 0), some 3, none⟩,
   ⟨.box 127 13 (.tmp 1), some 4, none⟩,
   ⟨.mv (.const (.int .i64 0)), some 5, none⟩])
  (.seq (.seq (.reg [⟨.fa 6 (.tmp 2), some 9, none⟩,
   ⟨.ld1 (.tmp 9), some 10, none⟩,
   ⟨.len (.tmp 10), some 11, none⟩,
   ⟨.mv (.const (.int .i64 0)), some 12, none⟩])
  (.blk 0 (.loop (.seq (.reg [⟨.bin .lss (.tmp 12) (.tmp 11), some 13, none⟩])
      (.seq (.cond (.tmp 13) (.skip)
      (.exit 0))
      (.seq (.blk 1 (.seq (.reg [⟨.ia 2 (.tmp 10) (.tmp 12), some 14, none⟩,
         ⟨.ldn 2 (.tmp 14), some 15, none⟩,
         ⟨.alloc 71 [.int .i64 0, .bool false], some 7, none⟩,
         ⟨.stn 2 (.tmp 7) (.tmp 15), none, none⟩])
        (.seq (.reg [⟨.ldn 2 (.tmp 7), some 16, none⟩,
         ⟨.ldn 13 (.tmp 3), some 17, none⟩,
         ⟨.ldn 13 (.tmp 4), some 18, none⟩,
         ⟨.call 85 [.tmp 16, .tmp 17, .tmp 18], some 19, none⟩,
         ⟨.mv (.tmp 19), some 8, none⟩])
        (.seq (.reg [⟨.mv (.tmp 8), some 20, none⟩,
         ⟨.bin .neq (.tmp 20) (.const (.int .i64 0)), some 21, none⟩])
        (.cond (.tmp 21) (.seq (.reg [⟨.mv (.tmp 8), some 22, none⟩,
           ⟨.mv (.tmp 22), some 5, none⟩])
          (.ret))
        (.skip))))))
      (.reg [⟨.bin .add (.tmp 12) (.const (.int .i64 1)), some 23, none⟩,
       ⟨.mv (.tmp 23), some 12, none⟩])))))))
  (.seq (.reg [⟨.fa 0 (.tmp 3), some 24, none⟩,
   ⟨.ld1 (.tmp 24), some 25, none⟩,
   ⟨.fa 0 (.tmp 4), some 26, none⟩,
   ⟨.ld1 (.tmp 26), some 27, none⟩,
   ⟨.call 86 [.tmp 25, .tmp 27], some 28, none⟩,
   ⟨.mv (.tmp 28), some 5, none⟩])
  (.ret)))
theorem ok84 : FnOk Tryz.prog 84 29 R84 [.t 5] := ⟨_, _, rfl, rfl, rfl, by kernel_rfl, by kernel_rfl⟩

/-- (tintype/find.Sort).compare -/
def R85 : RC :=
  .seq (.reg [⟨.box 71 2 (.tmp 0), some 3, none⟩,
   ⟨.box 127 13 (.tmp 1), some 4, none⟩,
   ⟨.box 127 13 (.tmp 2), some 5, none⟩,
   ⟨.mv (.const (.int .i64 0)), some 6, none⟩])
  (.seq (.reg [⟨.mv (.const (.int .i64 0)), some 7, none⟩])
  (.seq (.seq (.reg [⟨.fa 0 (.tmp 3), some 8, none⟩,
   ⟨.ld1 (.tmp 8), some 9, none⟩])
  (.blk 0 (.seq (.reg [⟨.bin .eql (.tmp 9) (.const (.int .i64 1)), some 11, none⟩,
     ⟨.mv (.tmp 11), some 10, none⟩])
    (.cond (.tmp 10) (.reg [⟨.fa 0 (.tmp 4), some 12, none⟩,
       ⟨.ld1 (.tmp 12), some 13, none⟩,
       ⟨.fa 0 (.tmp 5), some 14, none⟩,
       ⟨.ld1 (.tmp 14), some 15, none⟩,
       ⟨.call 86 [.tmp 13, .tmp 15], some 16, none⟩,
       ⟨.mv (.tmp 16), some 7, none⟩])
    (.seq (.reg [⟨.bin .eql (.tmp 9) (.const (.int .i64 2)), some 18, none⟩,
       ⟨.mv (.tmp 18), some 17, none⟩])
      (.cond (.tmp 17) (.seq (.seq (.reg [⟨.fa 2 (.tmp 4), some 19, none⟩,
         ⟨.ld1 (.tmp 19), some 20, none⟩,
         ⟨.bin .lss (.tmp 20) (.const (.int .i64 0)), some 21, none⟩,
         ⟨.fa 2 (.tmp 5), some 22, none⟩,
         ⟨.ld1 (.tmp 22), some 23, none⟩,
         ⟨.bin .lss (.tmp 23) (.const (.int .i64 0)), some 24, none⟩,
         ⟨.raw (Op.binOp BinOp.neq 4 (Operand.tmp 21) (Operand.tmp 24) 4) 4, some 25, none⟩])
        (.cond (.tmp 25) (.seq (.reg [⟨.fa 2 (.tmp 5), some 26, none⟩,
           ⟨.ld1 (.tmp 26), some 27, none⟩,
           ⟨.fa 2 (.tmp 4), some 28, none⟩,
           ⟨.ld1 (.tmp 28), some 29, none⟩,
           ⟨.call 86 [.tmp 27, .tmp 29], some 30, none⟩,
           ⟨.mv (.tmp 30), some 6, none⟩])
          (.ret))
        (.skip)))
        (.reg [⟨.fa 2 (.tmp 4), some 31, none⟩,
         ⟨.ld1 (.tmp 31), some 32, none⟩,
         ⟨.fa 2 (.tmp 5), some 33, none⟩,
         ⟨.ld1 (.tmp 33), some 34, none⟩,
         ⟨.call 86 [.tmp 32, .tmp 34], some 35, none⟩,
         ⟨.mv (.tmp 35), some 7, none⟩]))
      (.seq (.reg [⟨.bin .eql (.tmp 9) (.const (.int .i64 3)), some 37, none⟩,
         ⟨.mv (.tmp 37), some 36, none⟩])
        (.cond (.tmp 36) (.reg [⟨.fa 8 (.tmp 4), some 38, none⟩,
           ⟨.ld1 (.tmp 38), some 39, none⟩,
           ⟨.fa 8 (.tmp 5), some 40, none⟩,
           ⟨.ld1 (.tmp 40), some 41, none⟩,
           ⟨.call 86 [.tmp 39, .tmp 41], some 42, none⟩,
           ⟨.mv (.tmp 42), some 7, none⟩])
        (.seq (.reg [⟨.bin .eql (.tmp 9) (.const (.int .i64 4)), some 44, none⟩,
           ⟨.mv (.tmp 44), some 43, none⟩])
          (.cond (.tmp 43) (.reg [⟨.fa 5 (.tmp 4), some 45, none⟩,
             ⟨.ld1 (.tmp 45), some 46, none⟩,
             ⟨.fa 6 (.tmp 4), some 47, none⟩,
             ⟨.ld1 (.tmp 47), some 48, none⟩,
             ⟨.bin .mul (.tmp 46) (.tmp 48), some 49, none⟩,
             ⟨.fa 5 (.tmp 5), some 50, none⟩,
             ⟨.ld1 (.tmp 50), some 51, none⟩,
             ⟨.fa 6 (.tmp 5), some 52, none⟩,
             ⟨.ld1 (.tmp 52), some 53, none⟩,
             ⟨.bin .mul (.tmp 51) (.tmp 53), some 54, none⟩,
             ⟨.call 86 [.tmp 49, .tmp 54], some 55, none⟩,
             ⟨.mv (.tmp 55), some 7, none⟩])
          (.seq (.reg [⟨.bin .eql (.tmp 9) (.const (.int .i64 5)), some 57, none⟩,
             ⟨.mv (.tmp 57), some 56, none⟩])
            (.cond (.tmp 56) (.reg [⟨.fa 10 (.tmp 4), some 58, none⟩,
               ⟨.ld1 (.tmp 58), some 59, none⟩,
               ⟨.fa 10 (.tmp 5), some 60, none⟩,
               ⟨.ld1 (.tmp 60), some 61, none⟩,
               ⟨.call 97 [.tmp 59, .tmp 61], some 62, none⟩,
               ⟨.mv (.tmp 62), some 7, none⟩])
            (.skip)))))))))))))
  (.seq (.seq (.reg [⟨.fa 1 (.tmp 3), some 63, none⟩,
   ⟨.ld1 (.tmp 63), some 64, none⟩])
  (.cond (.tmp 64) (.seq (.reg [⟨.mv (.tmp 7), some 65, none⟩,
     ⟨.un .neg (.tmp 65), some 66, none⟩,
     ⟨.mv (.tmp 66), some 6, none⟩])
    (.ret))
  (.skip)))
  (.seq (.reg [⟨.mv (.tmp 7), some 67, none⟩,
   ⟨.mv (.tmp 67), some 6, none⟩])
  (.ret)))))
theorem ok85 : FnOk Tryz.prog 85 68 R85 [.t 6] := ⟨_, _, rfl, rfl, rfl, by kernel_rfl, by kernel_rfl⟩

/-- cmp.Compare[int] -/
def R86 : RC :=
  .seq (.reg [⟨.mv (.const (.int .i64 0)), some 4, none⟩])
  (.seq (.reg [⟨.mv (.tmp 0), some 7, none⟩,
   ⟨.call 122 [.tmp 7], some 8, none⟩,
   ⟨.mv (.tmp 8), some 5, none⟩])
  (.seq (.reg [⟨.mv (.tmp 1), some 9, none⟩,
   ⟨.call 122 [.tmp 9], some 10, none⟩,
   ⟨.mv (.tmp 10), some 6, none⟩])
  (.seq (.seq (.reg [⟨.mv (.tmp 5), some 11, none⟩])
  (.cond (.tmp 11) (.seq (.seq (.reg [⟨.mv (.tmp 6), some 12, none⟩])
    (.cond (.tmp 12) (.seq (.reg [⟨.mv (.const (.int .i64 0)), some 4, none⟩])
      (.ret))
    (.skip)))
    (.seq (.reg [⟨.mv (.const (.int .i64 (-1))), some 4, none⟩])
    (.ret)))
  (.skip)))
  (.seq (.seq (.reg [⟨.mv (.tmp 6), some 13, none⟩])
  (.cond (.tmp 13) (.seq (.reg [⟨.mv (.const (.int .i64 1)), some 4, none⟩])
    (.ret))
  (.skip)))
  (.seq (.seq (.reg [⟨.mv (.tmp 0), some 14, none⟩,
   ⟨.mv (.tmp 1), some 15, none⟩,
   ⟨.bin .lss (.tmp 14) (.tmp 15), some 16, none⟩])
  (.cond (.tmp 16) (.seq (.reg [⟨.mv (.const (.int .i64 (-1))), some 4, none⟩])
    (.ret))
  (.skip)))
  (.seq (.seq (.reg [⟨.mv (.tmp 0), some 17, none⟩,
   ⟨.mv (.tmp 1), some 18, none⟩,
   ⟨.bin .gtr (.tmp 17) (.tmp 18), some 19, none⟩])
  (.cond (.tmp 19) (.seq (.reg [⟨.mv (.const (.int .i64 1)), some 4, none⟩])
    (.ret))
  (.skip)))
  (.seq (.reg [⟨.mv (.const (.int .i64 0)), some 4, none⟩])
  (.ret))))))))
theorem ok86 : FnOk Tryz.prog 86 20 R86 [.t 4] := ⟨_, _, rfl, rfl, rfl, by kernel_rfl, by kernel_rfl⟩

/-- cmp.Compare[string] -/
def R97 : RC :=
  .seq (.reg [⟨.mv (.const (.int .i64 0)), some 4, none⟩])
  (.seq (.reg [⟨.mv (.tmp 0), some 7, none⟩,
   ⟨.call 156 [.tmp 7], some 8, none⟩,
   ⟨.mv (.tmp 8), some 5, none⟩])
  (.seq (.reg [⟨.mv (.tmp 1), some 9, none⟩,
   ⟨.call 156 [.tmp 9], some 10, none⟩,
   ⟨.mv (.tmp 10), some 6, none⟩])
  (.seq (.seq (.reg [⟨.mv (.tmp 5), some 11, none⟩])
  (.cond (.tmp 11) (.seq (.seq (.reg [⟨.mv (.tmp 6), some 12, none⟩])
    (.cond (.tmp 12) (.seq (.reg [⟨.mv (.const (.int .i64 0)), some 4, none⟩])
      (.ret))
    (.skip)))
    (.seq (.reg [⟨.mv (.const (.int .i64 (-1))), some 4, none⟩])
    (.ret)))
  (.skip)))
  (.seq (.seq (.reg [⟨.mv (.tmp 6), some 13, none⟩])
  (.cond (.tmp 13) (.seq (.reg [⟨.mv (.const (.int .i64 1)), some 4, none⟩])
    (.ret))
  (.skip)))
  (.seq (.seq (.reg [⟨.mv (.tmp 0), some 14, none⟩,
   ⟨.mv (.tmp 1), some 15, none⟩,
   ⟨.bin .lss (.tmp 14) (.tmp 15), some 16, none⟩])
  (.cond (.tmp 16) (.seq (.reg [⟨.mv (.const (.int .i64 (-1))), some 4, none⟩])
    (.ret))
  (.skip)))
  (.seq (.seq (.reg [⟨.mv (.tmp 0), some 17, none⟩,
   ⟨.mv (.tmp 1), some 18, none⟩,
   ⟨.bin .gtr (.tmp 17) (.tmp 18), some 19, none⟩])
  (.cond (.tmp 19) (.seq (.reg [⟨.mv (.const (.int .i64 1)), some 4, none⟩])
    (.ret))
  (.skip)))
  (.seq (.reg [⟨.mv (.const (.int .i64 0)), some 4, none⟩])
  (.ret))))))))
theorem ok97 : FnOk Tryz.prog 97 20 R97 [.t 4] := ⟨_, _, rfl, rfl, rfl, by kernel_rfl, by kernel_rfl⟩

/-- cmp.isNaN[int] -/
def R122 : RC :=
  .seq (.reg [⟨.mv (.const (.bool false)), some 2, none⟩])
  (.seq (.reg [⟨.mv (.tmp 0), some 3, none⟩,
   ⟨.mv (.tmp 0), some 4, none⟩,
   ⟨.bin .neq (.tmp 3) (.tmp 4), some 5, none⟩,
   ⟨.mv (.tmp 5), some 2, none⟩])
  (.ret))
theorem ok122 : FnOk Tryz.prog 122 6 R122 [.t 2] := ⟨_, _, rfl, rfl, rfl, by kernel_rfl, by kernel_rfl⟩

/-- cmp.isNaN[string] -/
def R156 : RC :=
  .seq (.reg [⟨.mv (.const (.bool false)), some 2, none⟩])
  (.seq (.reg [⟨.mv (.tmp 0), some 3, none⟩,
   ⟨.mv (.tmp 0), some 4, none⟩,
   ⟨.bin .neq (.tmp 3) (.tmp 4), some 5, none⟩,
   ⟨.mv (.tmp 5), some 2, none⟩])
  (.ret))
theorem ok156 : FnOk Tryz.prog 156 6 R156 [.t 2] := ⟨_, _, rfl, rfl, rfl, by kernel_rfl, by kernel_rfl⟩

/-- tintype/find.Ask -/
def R16 : RC :=
  .seq (.reg [⟨.box 29 9 (.tmp 1), some 3, none⟩,
   ⟨.mv (.const (.slice none 0 0)), some 4, none⟩,
   ⟨.mv (.const (.int .i64 0)), some 5, none⟩])
  (.seq (.seq (.reg [⟨.mv (.tmp 0), some 8, none⟩,
   ⟨.call 54 [.tmp 8], some 9, none⟩,
   ⟨.mv (.tmp 9), some 6, none⟩])
  (.seq (.reg [⟨.mv (.tmp 6), some 10, none⟩,
   ⟨.bin .neq (.tmp 10) (.const (.int .i64 0)), some 11, none⟩])
  (.cond (.tmp 11) (.seq (.reg [⟨.mv (.tmp 6), some 12, none⟩,
     ⟨.mv (.const (.slice none 0 0)), some 4, none⟩,
     ⟨.mv (.tmp 12), some 5, none⟩])
    (.ret))
  (.skip))))
  (.seq (.seq (.reg [⟨.ldn 9 (.tmp 3), some 13, none⟩,
   ⟨.call 19 [.tmp 13], some 14, none⟩,
   ⟨.mv (.tmp 14), some 7, none⟩])
  (.seq (.reg [⟨.mv (.tmp 7), some 15, none⟩,
   ⟨.bin .neq (.tmp 15) (.const (.int .i64 0)), some 16, none⟩])
  (.cond (.tmp 16) (.seq (.reg [⟨.mv (.tmp 7), some 17, none⟩,
     ⟨.mv (.const (.slice none 0 0)), some 4, none⟩,
     ⟨.mv (.tmp 17), some 5, none⟩])
    (.ret))
  (.skip))))
  (.seq (.reg [⟨.mv (.tmp 0), some 18, none⟩,
   ⟨.ldn 9 (.tmp 3), some 19, none⟩,
   ⟨.call 55 [.tmp 18, .tmp 19], some 20, none⟩,
   ⟨.mv (.tmp 20), some 4, none⟩,
   ⟨.mv (.const (.int .i64 0)), some 5, none⟩])
  (.ret))))
theorem ok16 : FnOk Tryz.prog 16 21 R16 [.t 4, .t 5] := ⟨_, _, rfl, rfl, rfl, by kernel_rfl, by kernel_rfl⟩

/-- tintype/find.NewIndex -/
def R17 : RC :=
  .seq (.reg [⟨.mv (.const (.pointer none)), some 2, none⟩,
   ⟨.mv (.const (.int .i64 0)), some 3, none⟩])
  (.seq (.seq (.reg [⟨.mv (.tmp 0), some 5, none⟩,
   ⟨.call 54 [.tmp 5], some 6, none⟩,
   ⟨.mv (.tmp 6), some 4, none⟩])
  (.seq (.reg [⟨.mv (.tmp 4), some 7, none⟩,
   ⟨.bin .neq (.tmp 7) (.const (.int .i64 0)), some 8, none⟩])
  (.cond (.tmp 8) (.seq (.reg [⟨.mv (.tmp 4), some 9, none⟩,
     ⟨.mv (.const (.pointer none)), some 2, none⟩,
     ⟨.mv (.tmp 9), some 3, none⟩])
    (.ret))
  (.skip))))
  (.seq (.reg [⟨.mv (.tmp 0), some 10, none⟩,
   ⟨.call 56 [.tmp 10], some 11, none⟩,
   ⟨.build [.slice none 0 0] [(0, 1, .tmp 11)], some 12, none⟩,
   ⟨.box 81 1 (.tmp 12), some 13, none⟩,
   ⟨.mv (.tmp 13), some 2, none⟩,
   ⟨.mv (.const (.int .i64 0)), some 3, none⟩])
  (.ret)))
theorem ok17 : FnOk Tryz.prog 17 14 R17 [.t 2, .t 3] := ⟨_, _, rfl, rfl, rfl, by kernel_rfl, by kernel_rfl⟩

/-- tintype/find.CopyPhotos -/
def R56 : RC :=
  .seq (.reg [⟨.mv (.const (.slice none 0 0)), some 2, none⟩])
  (.seq (.reg [⟨.mv (.const (.slice none 0 0)), some 3, none⟩])
  (.seq (.seq (.reg [⟨.mv (.tmp 0), some 6, none⟩,
   ⟨.len (.tmp 6), some 7, none⟩,
   ⟨.mv (.const (.int .i64 0)), some 8, none⟩])
  (.blk 0 (.loop (.seq (.reg [⟨.bin .lss (.tmp 8) (.tmp 7), some 9, none⟩])
      (.seq (.cond (.tmp 9) (.skip)
      (.exit 0))
      (.seq (.blk 1 (.seq (.reg [⟨.ia 13 (.tmp 6) (.tmp 8), some 10, none⟩,
         ⟨.ldn 13 (.tmp 10), some 11, none⟩,
         ⟨.alloc 127 [.int .i64 0, .string ⟨#[]⟩, .int .i64 0, .int .i64 0, .slice none 0 0, .int .i64 0, .int .i64 0, .int .i64 0, .int .i64 0, .slice none 0 0, .string ⟨#[]⟩, .slice none 0 0, .bool false], some 5, none⟩,
         ⟨.stn 13 (.tmp 5) (.tmp 11), none, none⟩])
        (.reg [⟨.mv (.tmp 3), some 12, none⟩,
         ⟨.ldn 13 (.tmp 5), some 13, none⟩,
         ⟨.call 87 [.tmp 13], some 14, none⟩,
         ⟨.bslice 127 13 1 [.int .i64 0, .string ⟨#[]⟩, .int .i64 0, .int .i64 0, .slice none 0 0, .int .i64 0, .int .i64 0, .int .i64 0, .int .i64 0, .slice none 0 0, .string ⟨#[]⟩, .slice none 0 0, .bool false] [(0, .tmp 14)], some 15, none⟩,
         ⟨.append 127 13 168 (.agg #[.int .i64 0, .string ⟨#[]⟩, .int .i64 0, .int .i64 0, .slice none 0 0, .int .i64 0, .int .i64 0, .int .i64 0, .int .i64 0, .slice none 0 0, .string ⟨#[]⟩, .slice none 0 0, .bool false]) (.tmp 12) (.tmp 15), some 16, none⟩,
         ⟨.mv (.tmp 16), some 3, none⟩])))
      (.reg [⟨.bin .add (.tmp 8) (.const (.int .i64 1)), some 17, none⟩,
       ⟨.mv (.tmp 17), some 8, none⟩])))))))
  (.seq (.reg [⟨.mv (.tmp 3), some 18, none⟩,
   ⟨.call 88 [.tmp 18], some 19, none⟩,
   ⟨.mv (.tmp 19), some 2, none⟩])
  (.ret))))
theorem ok56 : FnOk Tryz.prog 56 20 R56 [.t 2] := ⟨_, _, rfl, rfl, rfl, by kernel_rfl, by kernel_rfl⟩

/-- tintype/find.CopyPhoto -/
def R87 : RC :=
  .seq (.reg [⟨.box 127 13 (.tmp 0), some 1, none⟩,
   ⟨.alloc 127 [.int .i64 0, .string ⟨#[]⟩, .int .i64 0, .int .i64 0, .slice none 0 0, .int .i64 0, .int .i64 0, .int .i64 0, .int .i64 0, .slice none 0 0, .string ⟨#[]⟩, .slice none 0 0, .bool false], some 2, none⟩])
  (.seq (.reg [⟨.fa 4 (.tmp 1), some 3, none⟩,
   ⟨.ld1 (.tmp 3), some 4, none⟩,
   ⟨.call 63 [.tmp 4], some 5, none⟩,
   ⟨.call 123 [.tmp 5], some 6, none⟩,
   ⟨.fa 4 (.tmp 1), some 7, none⟩,
   ⟨.st1 (.tmp 7) (.tmp 6), none, none⟩])
  (.seq (.reg [⟨.fa 9 (.tmp 1), some 8, none⟩,
   ⟨.ld1 (.tmp 8), some 9, none⟩,
   ⟨.call 125 [.tmp 9], some 10, none⟩,
   ⟨.call 124 [.tmp 10], some 11, none⟩,
   ⟨.fa 9 (.tmp 1), some 12, none⟩,
   ⟨.st1 (.tmp 12) (.tmp 11), none, none⟩])
  (.seq (.reg [⟨.fa 11 (.tmp 1), some 13, none⟩,
   ⟨.ld1 (.tmp 13), some 14, none⟩,
   ⟨.call 126 [.tmp 14], some 15, none⟩,
   ⟨.call 89 [.tmp 15], some 16, none⟩,
   ⟨.fa 11 (.tmp 1), some 17, none⟩,
   ⟨.st1 (.tmp 17) (.tmp 16), none, none⟩])
  (.seq (.reg [⟨.ldn 13 (.tmp 1), some 18, none⟩,
   ⟨.stn 13 (.tmp 2) (.tmp 18), none, none⟩])
  (.ret)))))
theorem ok87 : FnOk Tryz.prog 87 19 R87 [.cn 2 13] := ⟨_, _, rfl, rfl, rfl, by kernel_rfl, by kernel_rfl⟩

/-- slices.Clone[[]tintype/api.Place,tintype/api.Place] -/
def R63 : RC :=
  .seq (.reg [⟨.mv (.const (.slice none 0 0)), some 2, none⟩])
  (.seq (.seq (.reg [⟨.mv (.tmp 0), some 3, none⟩,
   ⟨.raw (Op.binOp BinOp.eql 24 (Operand.tmp 3) (Operand.const (Value.slice none 0 0)) 24) 4, some 4, none⟩])
  (.cond (.tmp 4) (.seq (.reg [⟨.mv (.const (.slice none 0 0)), some 2, none⟩])
    (.ret))
  (.skip)))
  (.seq (.reg [⟨.bslice 69 2 0 [.int .i64 0, .int .i64 0] [], some 5, none⟩,
   ⟨.mv (.tmp 0), some 6, none⟩,
   ⟨.append 69 2 16 (.agg #[.int .i64 0, .int .i64 0]) (.tmp 5) (.tmp 6), some 7, none⟩,
   ⟨.mv (.tmp 7), some 2, none⟩])
  (.ret)))
theorem ok63 : FnOk Tryz.prog 63 8 R63 [.t 2] := ⟨_, _, rfl, rfl, rfl, by kernel_rfl, by kernel_rfl⟩

/-- slices.Clip[[]tintype/api.Place,tintype/api.Place] -/
def R123 : RC :=
  .seq (.reg [⟨.mv (.const (.slice none 0 0)), some 2, none⟩])
  (.seq (.reg [⟨.mv (.tmp 0), some 3, none⟩,
   ⟨.mv (.tmp 0), some 4, none⟩,
   ⟨.len (.tmp 4), some 5, none⟩,
   ⟨.mv (.tmp 0), some 6, none⟩,
   ⟨.len (.tmp 6), some 7, none⟩,
   ⟨.sl 2 (.tmp 3) none (some (.tmp 5)) (some (.tmp 7)), some 8, none⟩,
   ⟨.mv (.tmp 8), some 2, none⟩])
  (.ret))
theorem ok123 : FnOk Tryz.prog 123 9 R123 [.t 2] := ⟨_, _, rfl, rfl, rfl, by kernel_rfl, by kernel_rfl⟩

/-- slices.Clip[[]string,string] -/
def R124 : RC :=
  .seq (.reg [⟨.mv (.const (.slice none 0 0)), some 2, none⟩])
  (.seq (.reg [⟨.mv (.tmp 0), some 3, none⟩,
   ⟨.mv (.tmp 0), some 4, none⟩,
   ⟨.len (.tmp 4), some 5, none⟩,
   ⟨.mv (.tmp 0), some 6, none⟩,
   ⟨.len (.tmp 6), some 7, none⟩,
   ⟨.sl 1 (.tmp 3) none (some (.tmp 5)) (some (.tmp 7)), some 8, none⟩,
   ⟨.mv (.tmp 8), some 2, none⟩])
  (.ret))
theorem ok124 : FnOk Tryz.prog 124 9 R124 [.t 2] := ⟨_, _, rfl, rfl, rfl, by kernel_rfl, by kernel_rfl⟩

/-- slices.Clone[[]string,string] -/
def R125 : RC :=
  .seq (.reg [⟨.mv (.const (.slice none 0 0)), some 2, none⟩])
  (.seq (.seq (.reg [⟨.mv (.tmp 0), some 3, none⟩,
   ⟨.raw (Op.binOp BinOp.eql 119 (Operand.tmp 3) (Operand.const (Value.slice none 0 0)) 119) 4, some 4, none⟩])
  (.cond (.tmp 4) (.seq (.reg [⟨.mv (.const (.slice none 0 0)), some 2, none⟩])
    (.ret))
  (.skip)))
  (.seq (.reg [⟨.bslice 9 1 0 [.string ⟨#[]⟩] [], some 5, none⟩,
   ⟨.mv (.tmp 0), some 6, none⟩,
   ⟨.append 9 1 16 (.string ⟨#[]⟩) (.tmp 5) (.tmp 6), some 7, none⟩,
   ⟨.mv (.tmp 7), some 2, none⟩])
  (.ret)))
theorem ok125 : FnOk Tryz.prog 125 8 R125 [.t 2] := ⟨_, _, rfl, rfl, rfl, by kernel_rfl, by kernel_rfl⟩

/-- slices.Clone[[]int,int] -/
def R126 : RC :=
  .seq (.reg [⟨.mv (.const (.slice none 0 0)), some 2, none⟩])
  (.seq (.seq (.reg [⟨.mv (.tmp 0), some 3, none⟩,
   ⟨.raw (Op.binOp BinOp.eql 33 (Operand.tmp 3) (Operand.const (Value.slice none 0 0)) 33) 4, some 4, none⟩])
  (.cond (.tmp 4) (.seq (.reg [⟨.mv (.const (.slice none 0 0)), some 2, none⟩])
    (.ret))
  (.skip)))
  (.seq (.reg [⟨.bslice 3 1 0 [.int .i64 0] [], some 5, none⟩,
   ⟨.mv (.tmp 0), some 6, none⟩,
   ⟨.append 3 1 8 (.int .i64 0) (.tmp 5) (.tmp 6), some 7, none⟩,
   ⟨.mv (.tmp 7), some 2, none⟩])
  (.ret)))
theorem ok126 : FnOk Tryz.prog 126 8 R126 [.t 2] := ⟨_, _, rfl, rfl, rfl, by kernel_rfl, by kernel_rfl⟩

/-- (*tintype/find.Index).Ask -/
def R20 : RC :=
  .seq (.reg [⟨.box 29 9 (.tmp 1), some 3, none⟩,
   ⟨.mv (.const (.slice none 0 0)), some 4, none⟩,
   ⟨.mv (.const (.int .i64 0)), some 5, none⟩])
  (.seq (.seq (.reg [⟨.ldn 9 (.tmp 3), some 7, none⟩,
   ⟨.call 19 [.tmp 7], some 8, none⟩,
   ⟨.mv (.tmp 8), some 6, none⟩])
  (.seq (.reg [⟨.mv (.tmp 6), some 9, none⟩,
   ⟨.bin .neq (.tmp 9) (.const (.int .i64 0)), some 10, none⟩])
  (.cond (.tmp 10) (.seq (.reg [⟨.mv (.tmp 6), some 11, none⟩,
     ⟨.mv (.const (.slice none 0 0)), some 4, none⟩,
     ⟨.mv (.tmp 11), some 5, none⟩])
    (.ret))
  (.skip))))
  (.seq (.drw [⟨.mv (.tmp 0), some 12, none⟩,
   ⟨.nilc (.tmp 12), some 13, none⟩,
   ⟨.fa 0 (.tmp 13), some 14, none⟩,
   ⟨.ld1 (.tmp 14), some 15, none⟩,
   ⟨.ldn 9 (.tmp 3), some 16, none⟩,
   ⟨.call 55 [.tmp 15, .tmp 16], some 17, none⟩,
   ⟨.mv (.tmp 17), some 4, none⟩,
   ⟨.mv (.const (.int .i64 0)), some 5, none⟩] [[], [0], [1], [2], [], [3, 4], [5, 5, 0, 1, 2, 3, 4, 5], [6, 0, 1, 2, 3, 4, 5, 6]])
  (.ret)))
theorem ok20 : FnOk Tryz.prog 20 18 R20 [.t 4, .t 5] := ⟨_, _, rfl, rfl, rfl, by kernel_rfl, by kernel_rfl⟩

/-- tintype/find.Find -/
def R23 : RC :=
  .seq (.reg [⟨.box 26 6 (.tmp 1), some 3, none⟩,
   ⟨.mv (.const (.slice none 0 0)), some 4, none⟩,
   ⟨.mv (.const (.int .i64 0)), some 5, none⟩])
  (.seq (.seq (.reg [⟨.mv (.tmp 0), some 8, none⟩,
   ⟨.call 54 [.tmp 8], some 9, none⟩,
   ⟨.mv (.tmp 9), some 6, none⟩])
  (.seq (.reg [⟨.mv (.tmp 6), some 10, none⟩,
   ⟨.bin .neq (.tmp 10) (.const (.int .i64 0)), some 11, none⟩])
  (.cond (.tmp 11) (.seq (.reg [⟨.mv (.tmp 6), some 12, none⟩,
     ⟨.mv (.const (.slice none 0 0)), some 4, none⟩,
     ⟨.mv (.tmp 12), some 5, none⟩])
    (.ret))
  (.skip))))
  (.seq (.seq (.reg [⟨.ldn 6 (.tmp 3), some 13, none⟩,
   ⟨.call 52 [.tmp 13], some 14, none⟩,
   ⟨.mv (.tmp 14), some 7, none⟩])
  (.seq (.reg [⟨.mv (.tmp 7), some 15, none⟩,
   ⟨.bin .neq (.tmp 15) (.const (.int .i64 0)), some 16, none⟩])
  (.cond (.tmp 16) (.seq (.reg [⟨.mv (.tmp 7), some 17, none⟩,
     ⟨.mv (.const (.slice none 0 0)), some 4, none⟩,
     ⟨.mv (.tmp 17), some 5, none⟩])
    (.ret))
  (.skip))))
  (.seq (.reg [⟨.mv (.tmp 0), some 18, none⟩,
   ⟨.ldn 6 (.tmp 3), some 19, none⟩,
   ⟨.call 62 [.tmp 19], some 20, none⟩,
   ⟨.call 61 [.tmp 18, .tmp 20], some 21, none⟩,
   ⟨.call 60 [.tmp 21], some 22, none⟩,
   ⟨.mv (.tmp 22), some 4, none⟩,
   ⟨.mv (.const (.int .i64 0)), some 5, none⟩])
  (.ret))))
theorem ok23 : FnOk Tryz.prog 23 23 R23 [.t 4, .t 5] := ⟨_, _, rfl, rfl, rfl, by kernel_rfl, by kernel_rfl⟩

/-- tintype/tinttop.wNo -/
def R24 : RC :=
  .seq (.reg [⟨.box 26 6 (.tmp 0), some 1, none⟩,
   ⟨.alloc 26 [.int .i64 0, .slice none 0 0, .string ⟨#[]⟩, .int .i64 0, .int .i64 0, .slice none 0 0], some 2, none⟩])
  (.seq (.reg [⟨.ldn 6 (.tmp 1), some 3, none⟩,
   ⟨.bslice 26 6 1 [.int .i64 0, .slice none 0 0, .string ⟨#[]⟩, .int .i64 0, .int .i64 0, .slice none 0 0] [(0, .tmp 3)], some 4, none⟩,
   ⟨.call 32 [.const (.int .i64 3), .tmp 4], some 5, none⟩,
   ⟨.stn 6 (.tmp 2) (.tmp 5), none, none⟩])
  (.ret))
theorem ok24 : FnOk Tryz.prog 24 6 R24 [.cn 2 6] := ⟨_, _, rfl, rfl, rfl, by kernel_rfl, by kernel_rfl⟩

/-- tintype/tinttop.wOf -/
def R32 : RC :=
  .seq (.reg [⟨.alloc 26 [.int .i64 0, .slice none 0 0, .string ⟨#[]⟩, .int .i64 0, .int .i64 0, .slice none 0 0], some 4, none⟩])
  (.seq (.reg [⟨.mv (.tmp 0), some 5, none⟩,
   ⟨.mv (.tmp 1), some 6, none⟩,
   ⟨.build [.int .i64 0, .slice none 0 0, .string ⟨#[]⟩, .int .i64 0, .int .i64 0, .slice none 0 0] [(0, 1, .tmp 5), (1, 1, .tmp 6)], some 7, none⟩,
   ⟨.stn 6 (.tmp 4) (.tmp 7), none, none⟩])
  (.ret))
theorem ok32 : FnOk Tryz.prog 32 8 R32 [.cn 4 6] := ⟨_, _, rfl, rfl, rfl, by kernel_rfl, by kernel_rfl⟩

/-- tintype/tinttop.wCond -/
def R25 : RC :=
  .seq (.reg [⟨.box 26 6 (.tmp 0), some 1, none⟩,
   ⟨.alloc 26 [.int .i64 0, .slice none 0 0, .string ⟨#[]⟩, .int .i64 0, .int .i64 0, .slice none 0 0], some 2, none⟩])
  (.seq (.reg [⟨.mv (.const (.slice none 0 0)), some 3, none⟩])
  (.seq (.seq (.reg [⟨.fa 1 (.tmp 1), some 6, none⟩,
   ⟨.ld1 (.tmp 6), some 7, none⟩,
   ⟨.len (.tmp 7), some 8, none⟩,
   ⟨.mv (.const (.int .i64 0)), some 9, none⟩])
  (.blk 0 (.loop (.seq (.reg [⟨.bin .lss (.tmp 9) (.tmp 8), some 10, none⟩])
      (.seq (.cond (.tmp 10) (.skip)
      (.exit 0))
      (.seq (.blk 1 (.seq (.reg [⟨.ia 6 (.tmp 7) (.tmp 9), some 11, none⟩,
         ⟨.ldn 6 (.tmp 11), some 12, none⟩,
         ⟨.alloc 26 [.int .i64 0, .slice none 0 0, .string ⟨#[]⟩, .int .i64 0, .int .i64 0, .slice none 0 0], some 5, none⟩,
         ⟨.stn 6 (.tmp 5) (.tmp 12), none, none⟩])
        (.reg [⟨.mv (.tmp 3), some 13, none⟩,
         ⟨.ldn 6 (.tmp 5), some 14, none⟩,
         ⟨.call 25 [.tmp 14], some 15, none⟩,
         ⟨.bslice 26 6 1 [.int .i64 0, .slice none 0 0, .string ⟨#[]⟩, .int .i64 0, .int .i64 0, .slice none 0 0] [(0, .tmp 15)], some 16, none⟩,
         ⟨.append 26 6 88 (.agg #[.int .i64 0, .slice none 0 0, .string ⟨#[]⟩, .int .i64 0, .int .i64 0, .slice none 0 0]) (.tmp 13) (.tmp 16), some 17, none⟩,
         ⟨.mv (.tmp 17), some 3, none⟩])))
      (.reg [⟨.bin .add (.tmp 9) (.const (.int .i64 1)), some 18, none⟩,
       ⟨.mv (.tmp 18), some 9, none⟩])))))))
  (.seq (.reg [⟨.mv (.tmp 3), some 19, none⟩,
   ⟨.fa 5 (.tmp 1), some 20, none⟩,
   ⟨.ld1 (.tmp 20), some 21, none⟩,
   ⟨.call 63 [.tmp 21], some 22, none⟩,
   ⟨.fa 1 (.tmp 1), some 23, none⟩,
   ⟨.st1 (.tmp 23) (.tmp 19), none, none⟩,
   ⟨.fa 5 (.tmp 1), some 24, none⟩,
   ⟨.st1 (.tmp 24) (.tmp 22), none, none⟩])
  (.seq (.reg [⟨.ldn 6 (.tmp 1), some 25, none⟩,
   ⟨.stn 6 (.tmp 2) (.tmp 25), none, none⟩])
  (.ret)))))
theorem ok25 : FnOk Tryz.prog 25 26 R25 [.cn 2 6] := ⟨_, _, rfl, rfl, rfl, by kernel_rfl, by kernel_rfl⟩

/-- slices.Concat[[]int,int] -/
def R22 : RC :=
  .seq (.reg [⟨.mv (.const (.slice none 0 0)), some 2, none⟩])
  (.seq (.reg [⟨.mv (.const (.int .i64 0)), some 3, none⟩])
  (.seq (.seq (.reg [⟨.mv (.tmp 0), some 9, none⟩,
   ⟨.len (.tmp 9), some 10, none⟩,
   ⟨.mv (.const (.int .i64 0)), some 11, none⟩])
  (.blk 0 (.loop (.seq (.reg [⟨.bin .lss (.tmp 11) (.tmp 10), some 12, none⟩])
      (.seq (.cond (.tmp 12) (.skip)
      (.exit 0))
      (.seq (.blk 1 (.seq (.reg [⟨.ia 1 (.tmp 9) (.tmp 11), some 13, none⟩,
         ⟨.ld1 (.tmp 13), some 14, none⟩,
         ⟨.mv (.tmp 14), some 5, none⟩])
        (.seq (.reg [⟨.mv (.tmp 3), some 15, none⟩,
         ⟨.mv (.tmp 5), some 16, none⟩,
         ⟨.len (.tmp 16), some 17, none⟩,
         ⟨.bin .add (.tmp 15) (.tmp 17), some 18, none⟩,
         ⟨.mv (.tmp 18), some 3, none⟩])
        (.seq (.reg [⟨.mv (.tmp 3), some 19, none⟩,
         ⟨.bin .lss (.tmp 19) (.const (.int .i64 0)), some 20, none⟩])
        (.cond (.tmp 20) (.reg [⟨.mki 9 (.const (.string ⟨#[108, 101, 110, 32, 111, 117, 116, 32, 111, 102, 32, 114, 97, 110, 103, 101]⟩)), some 21, none⟩,
           ⟨.raw (Op.panic (Operand.tmp 21)) 0, none, none⟩])
        (.skip))))))
      (.reg [⟨.bin .add (.tmp 11) (.const (.int .i64 1)), some 22, none⟩,
       ⟨.mv (.tmp 22), some 11, none⟩])))))))
  (.seq (.reg [⟨.mv (.tmp 3), some 23, none⟩,
   ⟨.call 59 [.const (.slice none 0 0), .tmp 23], some 24, none⟩,
   ⟨.mv (.tmp 24), some 6, none⟩])
  (.seq (.seq (.reg [⟨.mv (.tmp 0), some 25, none⟩,
   ⟨.len (.tmp 25), some 26, none⟩,
   ⟨.mv (.const (.int .i64 0)), some 27, none⟩])
  (.blk 2 (.loop (.seq (.reg [⟨.bin .lss (.tmp 27) (.tmp 26), some 28, none⟩])
      (.seq (.cond (.tmp 28) (.skip)
      (.exit 2))
      (.seq (.blk 3 (.seq (.reg [⟨.ia 1 (.tmp 25) (.tmp 27), some 29, none⟩,
         ⟨.ld1 (.tmp 29), some 30, none⟩,
         ⟨.mv (.tmp 30), some 8, none⟩])
        (.reg [⟨.mv (.tmp 6), some 31, none⟩,
         ⟨.mv (.tmp 8), some 32, none⟩,
         ⟨.append 3 1 8 (.int .i64 0) (.tmp 31) (.tmp 32), some 33, none⟩,
         ⟨.mv (.tmp 33), some 6, none⟩])))
      (.reg [⟨.bin .add (.tmp 27) (.const (.int .i64 1)), some 34, none⟩,
       ⟨.mv (.tmp 34), some 27, none⟩])))))))
  (.seq (.reg [⟨.mv (.tmp 6), some 35, none⟩,
   ⟨.mv (.tmp 35), some 2, none⟩])
  (.ret))))))
theorem ok22 : FnOk Tryz.prog 22 36 R22 [.t 2] := ⟨_, _, rfl, rfl, rfl, by kernel_rfl, by kernel_rfl⟩

/-- slices.Grow[[]int,int] -/
def R59 : RC :=
  .seq (.reg [⟨.mv (.const (.slice none 0 0)), some 4, none⟩])
  (.seq (.seq (.reg [⟨.mv (.tmp 1), some 5, none⟩,
   ⟨.bin .lss (.tmp 5) (.const (.int .i64 0)), some 6, none⟩])
  (.cond (.tmp 6) (.reg [⟨.mki 9 (.const (.string ⟨#[99, 97, 110, 110, 111, 116, 32, 98, 101, 32, 110, 101, 103, 97, 116, 105, 118, 101]⟩)), some 7, none⟩,
     ⟨.raw (Op.panic (Operand.tmp 7)) 0, none, none⟩])
  (.skip)))
  (.seq (.seq (.reg [⟨.mv (.tmp 1), some 8, none⟩,
   ⟨.mv (.tmp 0), some 9, none⟩,
   ⟨.raw (Op.call { callee := Callee.builtin Builtin.cap, args := #[Operand.tmp 9], argTypes := #[33] }) 3, some 10, none⟩,
   ⟨.mv (.tmp 0), some 11, none⟩,
   ⟨.len (.tmp 11), some 12, none⟩,
   ⟨.bin .sub (.tmp 10) (.tmp 12), some 13, none⟩,
   ⟨.bin .sub (.tmp 8) (.tmp 13), some 14, none⟩,
   ⟨.mv (.tmp 14), some 1, none⟩])
  (.seq (.reg [⟨.mv (.tmp 1), some 15, none⟩,
   ⟨.bin .gtr (.tmp 15) (.const (.int .i64 0)), some 16, none⟩])
  (.cond (.tmp 16) (.reg [⟨.mv (.tmp 0), some 17, none⟩,
     ⟨.mv (.tmp 0), some 18, none⟩,
     ⟨.raw (Op.call { callee := Callee.builtin Builtin.cap, args := #[Operand.tmp 18], argTypes := #[33] }) 3, some 19, none⟩,
     ⟨.sl 1 (.tmp 17) none (some (.tmp 19)) none, some 20, none⟩,
     ⟨.mv (.tmp 1), some 21, none⟩,
     ⟨.raw (Op.call { callee := Callee.builtin Builtin.append, args := #[Operand.tmp 20, Operand.tmp 21], argTypes := #[33, 3] }) 33, some 22, none⟩,
     ⟨.mv (.tmp 0), some 23, none⟩,
     ⟨.len (.tmp 23), some 24, none⟩,
     ⟨.sl 1 (.tmp 22) none (some (.tmp 24)) none, some 25, none⟩,
     ⟨.mv (.tmp 25), some 0, none⟩])
  (.skip))))
  (.seq (.reg [⟨.mv (.tmp 0), some 26, none⟩,
   ⟨.mv (.tmp 26), some 4, none⟩])
  (.ret))))
theorem ok59 : FnOk Tryz.prog 59 27 R59 [.t 4] := ⟨_, _, rfl, rfl, rfl, by kernel_rfl, by kernel_rfl⟩

/-- slices.Equal[[]int,int] -/
def R21 : RC :=
  .seq (.reg [⟨.mv (.const (.bool false)), some 4, none⟩])
  (.seq (.seq (.reg [⟨.mv (.tmp 0), some 6, none⟩,
   ⟨.len (.tmp 6), some 7, none⟩,
   ⟨.mv (.tmp 1), some 8, none⟩,
   ⟨.len (.tmp 8), some 9, none⟩,
   ⟨.bin .neq (.tmp 7) (.tmp 9), some 10, none⟩])
  (.cond (.tmp 10) (.seq (.reg [⟨.mv (.const (.bool false)), some 4, none⟩])
    (.ret))
  (.skip)))
  (.seq (.seq (.reg [⟨.mv (.tmp 0), some 11, none⟩,
   ⟨.len (.tmp 11), some 12, none⟩,
   ⟨.mv (.const (.int .i64 0)), some 13, none⟩])
  (.blk 0 (.loop (.seq (.reg [⟨.bin .lss (.tmp 13) (.tmp 12), some 14, none⟩])
      (.seq (.cond (.tmp 14) (.skip)
      (.exit 0))
      (.seq (.blk 1 (.seq (.reg [⟨.mv (.tmp 13), some 15, none⟩,
         ⟨.mv (.tmp 15), some 5, none⟩])
        (.seq (.drw [⟨.mv (.tmp 0), some 16, none⟩,
         ⟨.mv (.tmp 5), some 17, none⟩,
         ⟨.ia 1 (.tmp 16) (.tmp 17), some 18, none⟩,
         ⟨.ld1 (.tmp 18), some 19, none⟩,
         ⟨.mv (.tmp 1), some 20, none⟩,
         ⟨.mv (.tmp 5), some 21, none⟩,
         ⟨.ia 1 (.tmp 20) (.tmp 21), some 22, none⟩,
         ⟨.ld1 (.tmp 22), some 23, none⟩,
         ⟨.bin .neq (.tmp 19) (.tmp 23), some 24, none⟩] [[], [], [0, 1], [2], [], [], [4, 5], [6], [3, 7]])
        (.cond (.tmp 24) (.seq (.reg [⟨.mv (.const (.bool false)), some 4, none⟩])
          (.ret))
        (.skip)))))
      (.reg [⟨.bin .add (.tmp 13) (.const (.int .i64 1)), some 25, none⟩,
       ⟨.mv (.tmp 25), some 13, none⟩])))))))
  (.seq (.reg [⟨.mv (.const (.bool true)), some 4, none⟩])
  (.ret))))
theorem ok21 : FnOk Tryz.prog 21 26 R21 [.t 4] := ⟨_, _, rfl, rfl, rfl, by kernel_rfl, by kernel_rfl⟩

/-- slices.ContainsFunc[[]int,int] -/
def R26 : RC :=
  .seq (.reg [⟨.mv (.const (.bool false)), some 4, none⟩])
  (.seq (.reg [⟨.mv (.tmp 0), some 5, none⟩,
   ⟨.mv (.tmp 1), some 6, none⟩,
   ⟨.call 64 [.tmp 5, .tmp 6], some 7, none⟩,
   ⟨.bin .geq (.tmp 7) (.const (.int .i64 0)), some 8, none⟩,
   ⟨.mv (.tmp 8), some 4, none⟩])
  (.ret))
theorem ok26 : FnOk Tryz.prog 26 9 R26 [.t 4] := ⟨_, _, rfl, rfl, rfl, by kernel_rfl, by kernel_rfl⟩

/-- tintype/tinttop.TopAnswersParted closure 1 -/
def R27 : RC :=
  .seq (.reg [⟨.mv (.const (.bool false)), some 3, none⟩])
  (.seq (.reg [⟨.ld1 (.tmp 1), some 4, none⟩,
   ⟨.mv (.tmp 0), some 5, none⟩,
   ⟨.call 28 [.tmp 4, .tmp 5], some 6, none⟩,
   ⟨.mv (.tmp 6), some 3, none⟩])
  (.ret))
theorem ok27 : FnOk Tryz.prog 27 7 R27 [.t 3] := ⟨_, _, rfl, rfl, rfl, by kernel_rfl, by kernel_rfl⟩

/-- slices.Contains[[]int,int] -/
def R28 : RC :=
  .seq (.reg [⟨.mv (.const (.bool false)), some 4, none⟩])
  (.seq (.reg [⟨.mv (.tmp 0), some 5, none⟩,
   ⟨.mv (.tmp 1), some 6, none⟩,
   ⟨.call 65 [.tmp 5, .tmp 6], some 7, none⟩,
   ⟨.bin .geq (.tmp 7) (.const (.int .i64 0)), some 8, none⟩,
   ⟨.mv (.tmp 8), some 4, none⟩])
  (.ret))
theorem ok28 : FnOk Tryz.prog 28 9 R28 [.t 4] := ⟨_, _, rfl, rfl, rfl, by kernel_rfl, by kernel_rfl⟩

/-- slices.IndexFunc[[]int,int] -/
def R64 : RC :=
  .seq (.reg [⟨.mv (.const (.int .i64 0)), some 4, none⟩])
  (.seq (.seq (.reg [⟨.mv (.tmp 0), some 6, none⟩,
   ⟨.len (.tmp 6), some 7, none⟩,
   ⟨.mv (.const (.int .i64 0)), some 8, none⟩])
  (.blk 0 (.loop (.seq (.reg [⟨.bin .lss (.tmp 8) (.tmp 7), some 9, none⟩])
      (.seq (.cond (.tmp 9) (.skip)
      (.exit 0))
      (.seq (.blk 1 (.seq (.reg [⟨.mv (.tmp 8), some 10, none⟩,
         ⟨.mv (.tmp 10), some 5, none⟩])
        (.seq (.reg [⟨.mv (.tmp 1), some 11, none⟩,
         ⟨.mv (.tmp 0), some 12, none⟩,
         ⟨.mv (.tmp 5), some 13, none⟩,
         ⟨.ia 1 (.tmp 12) (.tmp 13), some 14, none⟩,
         ⟨.ld1 (.tmp 14), some 15, none⟩,
         ⟨.callv (.tmp 11) [.tmp 15], some 16, none⟩])
        (.cond (.tmp 16) (.seq (.reg [⟨.mv (.tmp 5), some 17, none⟩,
           ⟨.mv (.tmp 17), some 4, none⟩])
          (.ret))
        (.skip)))))
      (.reg [⟨.bin .add (.tmp 8) (.const (.int .i64 1)), some 18, none⟩,
       ⟨.mv (.tmp 18), some 8, none⟩])))))))
  (.seq (.reg [⟨.mv (.const (.int .i64 (-1))), some 4, none⟩])
  (.ret)))
theorem ok64 : FnOk Tryz.prog 64 19 R64 [.t 4] := ⟨_, _, rfl, rfl, rfl, by kernel_rfl, by kernel_rfl⟩

/-- slices.Index[[]int,int] -/
def R65 : RC :=
  .seq (.reg [⟨.mv (.const (.int .i64 0)), some 4, none⟩])
  (.seq (.seq (.reg [⟨.mv (.tmp 0), some 6, none⟩,
   ⟨.len (.tmp 6), some 7, none⟩,
   ⟨.mv (.const (.int .i64 0)), some 8, none⟩])
  (.blk 0 (.loop (.seq (.reg [⟨.bin .lss (.tmp 8) (.tmp 7), some 9, none⟩])
      (.seq (.cond (.tmp 9) (.skip)
      (.exit 0))
      (.seq (.blk 1 (.seq (.reg [⟨.mv (.tmp 8), some 10, none⟩,
         ⟨.mv (.tmp 10), some 5, none⟩])
        (.seq (.reg [⟨.mv (.tmp 1), some 11, none⟩,
         ⟨.mv (.tmp 0), some 12, none⟩,
         ⟨.mv (.tmp 5), some 13, none⟩,
         ⟨.ia 1 (.tmp 12) (.tmp 13), some 14, none⟩,
         ⟨.ld1 (.tmp 14), some 15, none⟩,
         ⟨.bin .eql (.tmp 11) (.tmp 15), some 16, none⟩])
        (.cond (.tmp 16) (.seq (.reg [⟨.mv (.tmp 5), some 17, none⟩,
           ⟨.mv (.tmp 17), some 4, none⟩])
          (.ret))
        (.skip)))))
      (.reg [⟨.bin .add (.tmp 8) (.const (.int .i64 1)), some 18, none⟩,
       ⟨.mv (.tmp 18), some 8, none⟩])))))))
  (.seq (.reg [⟨.mv (.const (.int .i64 (-1))), some 4, none⟩])
  (.ret)))
theorem ok65 : FnOk Tryz.prog 65 19 R65 [.t 4] := ⟨_, _, rfl, rfl, rfl, by kernel_rfl, by kernel_rfl⟩

/-- tintype/tinttop.wPick -/
def R18 : RC :=
  .seq (.reg [⟨.mv (.const (.int .i64 0)), some 4, none⟩])
  (.seq (.reg [⟨.mv (.tmp 0), some 5, none⟩,
   ⟨.convi .u64 (.tmp 5), some 6, none⟩,
   ⟨.mv (.tmp 1), some 7, none⟩,
   ⟨.convi .u64 (.tmp 7), some 8, none⟩,
   ⟨.bin .rem (.tmp 6) (.tmp 8), some 9, none⟩,
   ⟨.convi .i64 (.tmp 9), some 10, none⟩,
   ⟨.mv (.tmp 10), some 4, none⟩])
  (.ret))
theorem ok18 : FnOk Tryz.prog 18 11 R18 [.t 4] := ⟨_, _, rfl, rfl, rfl, by kernel_rfl, by kernel_rfl⟩

/-- tintype/tinttop.TopAnswersParted -/
def R3 : RC :=
  .seq (.reg [⟨.box 29 9 (.tmp 1), some 4, none⟩,
   ⟨.mv (.const (.bool false)), some 6, none⟩])
  (.seq (.seq (.reg [⟨.build [.int .i64 0, .slice none 0 0, .string ⟨#[]⟩, .int .i64 0, .int .i64 0, .slice none 0 0] [(0, 1, .const (.int .i64 9))], some 21, none⟩,
   ⟨.call 15 [.tmp 21], some 22, none⟩,
   ⟨.mv (.tmp 22), some 20, none⟩,
   ⟨.ext 0 (.tmp 20), some 23, none⟩,
   ⟨.ext 1 (.tmp 20), some 24, none⟩,
   ⟨.mv (.tmp 23), some 7, none⟩,
   ⟨.mv (.tmp 24), some 8, none⟩])
  (.seq (.reg [⟨.mv (.tmp 8), some 25, none⟩,
   ⟨.bin .neq (.tmp 25) (.const (.int .i64 0)), some 26, none⟩,
   ⟨.mv (.tmp 26), some 27, none⟩,
   ⟨.mv (.tmp 7), some 28, some (27, false)⟩,
   ⟨.bin .neq (.tmp 28) (.const (.string ⟨#[116, 97, 108, 108]⟩)), some 29, some (27, false)⟩,
   ⟨.pick (.tmp 27) (.const (.bool true)) (.tmp 29), some 30, none⟩])
  (.cond (.tmp 30) (.seq (.reg [⟨.mv (.const (.bool false)), some 6, none⟩])
    (.ret))
  (.skip))))
  (.seq (.reg [⟨.mv (.tmp 0), some 32, none⟩,
   ⟨.ldn 9 (.tmp 4), some 33, none⟩,
   ⟨.call 16 [.tmp 32, .tmp 33], some 34, none⟩,
   ⟨.mv (.tmp 34), some 31, none⟩,
   ⟨.ext 0 (.tmp 31), some 35, none⟩,
   ⟨.ext 1 (.tmp 31), some 36, none⟩,
   ⟨.mv (.tmp 35), some 9, none⟩,
   ⟨.mv (.tmp 36), some 10, none⟩])
  (.seq (.seq (.reg [⟨.mv (.tmp 10), some 37, none⟩,
   ⟨.bin .neq (.tmp 37) (.const (.int .i64 0)), some 38, none⟩,
   ⟨.mv (.tmp 38), some 39, none⟩,
   ⟨.mv (.tmp 9), some 40, some (39, false)⟩,
   ⟨.len (.tmp 40), some 41, some (39, false)⟩,
   ⟨.bin .eql (.tmp 41) (.const (.int .i64 0)), some 42, some (39, false)⟩,
   ⟨.pick (.tmp 39) (.const (.bool true)) (.tmp 42), some 43, none⟩])
  (.cond (.tmp 43) (.seq (.reg [⟨.mv (.tmp 9), some 44, none⟩,
     ⟨.len (.tmp 44), some 45, none⟩,
     ⟨.bin .eql (.tmp 45) (.const (.int .i64 0)), some 46, none⟩,
     ⟨.mv (.tmp 46), some 6, none⟩])
    (.ret))
  (.skip)))
  (.seq (.reg [⟨.mv (.tmp 0), some 48, none⟩,
   ⟨.call 17 [.tmp 48], some 49, none⟩,
   ⟨.mv (.tmp 49), some 47, none⟩,
   ⟨.ext 0 (.tmp 47), some 50, none⟩,
   ⟨.ext 1 (.tmp 47), some 51, none⟩,
   ⟨.mv (.tmp 50), some 11, none⟩,
   ⟨.mv (.tmp 51), some 10, none⟩])
  (.seq (.seq (.reg [⟨.mv (.tmp 10), some 52, none⟩,
   ⟨.bin .neq (.tmp 52) (.const (.int .i64 0)), some 53, none⟩])
  (.cond (.tmp 53) (.seq (.reg [⟨.mv (.const (.bool false)), some 6, none⟩])
    (.ret))
  (.skip)))
  (.seq (.reg [⟨.mv (.tmp 2), some 54, none⟩,
   ⟨.mv (.tmp 9), some 55, none⟩,
   ⟨.len (.tmp 55), some 56, none⟩,
   ⟨.call 18 [.tmp 54, .tmp 56], some 57, none⟩,
   ⟨.bin .add (.const (.int .i64 1)) (.tmp 57), some 58, none⟩,
   ⟨.mv (.tmp 58), some 12, none⟩])
  (.seq (.drw [⟨.ldn 9 (.tmp 4), some 59, none⟩,
   ⟨.ldn 9 (.tmp 4), some 60, none⟩,
   ⟨.alloc 29 [.int .i64 0, .slice none 0 0, .string ⟨#[]⟩, .int .i64 0, .int .i64 0, .slice none 0 0, .slice none 0 0, .int .i64 0, .int .i64 0], some 13, none⟩,
   ⟨.alloc 29 [.int .i64 0, .slice none 0 0, .string ⟨#[]⟩, .int .i64 0, .int .i64 0, .slice none 0 0, .slice none 0 0, .int .i64 0, .int .i64 0], some 14, none⟩,
   ⟨.stn 9 (.tmp 13) (.tmp 59), none, none⟩,
   ⟨.stn 9 (.tmp 14) (.tmp 60), none, none⟩] [[], [], [], [], [2, 0, 0, 2, 3], [3, 1, 4, 0, 1, 2, 3, 4]])
  (.seq (.reg [⟨.mv (.tmp 12), some 61, none⟩,
   ⟨.fa 8 (.tmp 13), some 62, none⟩,
   ⟨.st1 (.tmp 62) (.tmp 61), none, none⟩])
  (.seq (.reg [⟨.fa 7 (.tmp 14), some 63, none⟩,
   ⟨.ld1 (.tmp 63), some 64, none⟩,
   ⟨.mv (.tmp 12), some 65, none⟩,
   ⟨.bin .add (.tmp 64) (.tmp 65), some 66, none⟩,
   ⟨.fa 7 (.tmp 14), some 67, none⟩,
   ⟨.st1 (.tmp 67) (.tmp 66), none, none⟩])
  (.seq (.seq (.reg [⟨.fa 8 (.tmp 14), some 68, none⟩,
   ⟨.ld1 (.tmp 68), some 69, none⟩,
   ⟨.bin .gtr (.tmp 69) (.const (.int .i64 0)), some 70, none⟩])
  (.cond (.tmp 70) (.reg [⟨.fa 8 (.tmp 14), some 71, none⟩,
     ⟨.ld1 (.tmp 71), some 72, none⟩,
     ⟨.mv (.tmp 12), some 73, none⟩,
     ⟨.bin .sub (.tmp 72) (.tmp 73), some 74, none⟩,
     ⟨.fa 8 (.tmp 14), some 75, none⟩,
     ⟨.st1 (.tmp 75) (.tmp 74), none, none⟩])
  (.skip)))
  (.seq (.reg [⟨.mv (.tmp 0), some 77, none⟩,
   ⟨.ldn 9 (.tmp 13), some 78, none⟩,
   ⟨.call 16 [.tmp 77, .tmp 78], some 79, none⟩,
   ⟨.mv (.tmp 79), some 76, none⟩,
   ⟨.ext 0 (.tmp 76), some 80, none⟩,
   ⟨.ext 1 (.tmp 76), some 81, none⟩,
   ⟨.mv (.tmp 80), some 15, none⟩,
   ⟨.mv (.tmp 81), some 10, none⟩])
  (.seq (.seq (.reg [⟨.mv (.tmp 10), some 82, none⟩,
   ⟨.bin .neq (.tmp 82) (.const (.int .i64 0)), some 83, none⟩])
  (.cond (.tmp 83) (.seq (.reg [⟨.mv (.const (.bool false)), some 6, none⟩])
    (.ret))
  (.skip)))
  (.seq (.reg [⟨.mv (.const (.slice none 0 0)), some 16, none⟩])
  (.seq (.seq (.reg [⟨.fa 8 (.tmp 4), some 84, none⟩,
   ⟨.ld1 (.tmp 84), some 85, none⟩,
   ⟨.bin .eql (.tmp 85) (.const (.int .i64 0)), some 86, none⟩,
   ⟨.mv (.tmp 86), some 87, none⟩,
   ⟨.fa 8 (.tmp 14), some 88, some (87, false)⟩,
   ⟨.ld1 (.tmp 88), some 89, some (87, false)⟩,
   ⟨.bin .gtr (.tmp 89) (.const (.int .i64 0)), some 90, some (87, false)⟩,
   ⟨.pick (.tmp 87) (.const (.bool true)) (.tmp 90), some 91, none⟩])
  (.cond (.tmp 91) (.seq (.seq (.reg [⟨.ldn 9 (.tmp 14), some 92, none⟩,
     ⟨.call 19 [.tmp 92], some 93, none⟩,
     ⟨.bin .neq (.tmp 93) (.const (.int .i64 0)), some 94, none⟩])
    (.cond (.tmp 94) (.seq (.reg [⟨.mv (.const (.bool true)), some 6, none⟩])
      (.ret))
    (.skip)))
    (.seq (.reg [⟨.mv (.tmp 11), some 96, none⟩,
     ⟨.ldn 9 (.tmp 14), some 97, none⟩,
     ⟨.call 20 [.tmp 96, .tmp 97], some 98, none⟩,
     ⟨.mv (.tmp 98), some 95, none⟩,
     ⟨.ext 0 (.tmp 95), some 99, none⟩,
     ⟨.ext 1 (.tmp 95), some 100, none⟩,
     ⟨.mv (.tmp 99), some 16, none⟩,
     ⟨.mv (.tmp 100), some 10, none⟩])
    (.seq (.reg [⟨.mv (.tmp 10), some 101, none⟩,
     ⟨.bin .neq (.tmp 101) (.const (.int .i64 0)), some 102, none⟩])
    (.cond (.tmp 102) (.seq (.reg [⟨.mv (.const (.bool false)), some 6, none⟩])
      (.ret))
    (.skip)))))
  (.skip)))
  (.seq (.seq (.reg [⟨.mv (.tmp 15), some 103, none⟩,
   ⟨.mv (.tmp 16), some 104, none⟩,
   ⟨.bslice 33 1 2 [.slice none 0 0] [(0, .tmp 103), (1, .tmp 104)], some 105, none⟩,
   ⟨.call 22 [.tmp 105], some 106, none⟩,
   ⟨.mv (.tmp 9), some 107, none⟩,
   ⟨.call 21 [.tmp 106, .tmp 107], some 108, none⟩,
   ⟨.un .not (.tmp 108), some 109, none⟩])
  (.cond (.tmp 109) (.seq (.reg [⟨.mv (.const (.bool false)), some 6, none⟩])
    (.ret))
  (.skip)))
  (.seq (.reg [⟨.mv (.tmp 0), some 111, none⟩,
   ⟨.fa 0 (.tmp 4), some 112, none⟩,
   ⟨.ldn 6 (.tmp 112), some 113, none⟩,
   ⟨.call 23 [.tmp 111, .tmp 113], some 114, none⟩,
   ⟨.mv (.tmp 114), some 110, none⟩,
   ⟨.ext 0 (.tmp 110), some 115, none⟩,
   ⟨.ext 1 (.tmp 110), some 116, none⟩,
   ⟨.alloc 33 [.slice none 0 0], some 17, none⟩,
   ⟨.st1 (.tmp 17) (.tmp 115), none, none⟩,
   ⟨.mv (.tmp 116), some 10, none⟩])
  (.seq (.reg [⟨.mv (.tmp 0), some 118, none⟩,
   ⟨.fa 0 (.tmp 4), some 119, none⟩,
   ⟨.ldn 6 (.tmp 119), some 120, none⟩,
   ⟨.call 25 [.tmp 120], some 121, none⟩,
   ⟨.call 24 [.tmp 121], some 122, none⟩,
   ⟨.call 23 [.tmp 118, .tmp 122], some 123, none⟩,
   ⟨.mv (.tmp 123), some 117, none⟩,
   ⟨.ext 0 (.tmp 117), some 124, none⟩,
   ⟨.ext 1 (.tmp 117), some 125, none⟩,
   ⟨.mv (.tmp 124), some 18, none⟩,
   ⟨.mv (.tmp 125), some 19, none⟩])
  (.seq (.seq (.reg [⟨.mv (.tmp 19), some 126, none⟩,
   ⟨.bin .eql (.tmp 126) (.const (.int .i64 4)), some 127, none⟩])
  (.cond (.tmp 127) (.seq (.reg [⟨.mv (.const (.bool true)), some 6, none⟩])
    (.ret))
  (.skip)))
  (.seq (.reg [⟨.mv (.tmp 10), some 128, none⟩,
   ⟨.bin .eql (.tmp 128) (.const (.int .i64 0)), some 129, none⟩,
   ⟨.mv (.tmp 129), some 130, none⟩,
   ⟨.mv (.tmp 19), some 131, some (130, true)⟩,
   ⟨.bin .eql (.tmp 131) (.const (.int .i64 0)), some 132, some (130, true)⟩,
   ⟨.pick (.tmp 130) (.tmp 132) (.const (.bool false)), some 133, none⟩,
   ⟨.mv (.tmp 133), some 134, none⟩,
   ⟨.ld1 (.tmp 17), some 135, some (134, true)⟩,
   ⟨.len (.tmp 135), some 136, some (134, true)⟩,
   ⟨.mv (.tmp 18), some 137, some (134, true)⟩,
   ⟨.len (.tmp 137), some 138, some (134, true)⟩,
   ⟨.bin .add (.tmp 136) (.tmp 138), some 139, some (134, true)⟩,
   ⟨.mv (.tmp 0), some 140, some (134, true)⟩,
   ⟨.len (.tmp 140), some 141, some (134, true)⟩,
   ⟨.bin .eql (.tmp 139) (.tmp 141), some 142, some (134, true)⟩,
   ⟨.pick (.tmp 134) (.tmp 142) (.const (.bool false)), some 143, none⟩,
   ⟨.mv (.tmp 143), some 144, none⟩,
   ⟨.mv (.tmp 18), some 145, some (144, true)⟩,
   ⟨.mkf (.func 27) [] [.tmp 17], some 146, some (144, true)⟩,
   ⟨.call 26 [.tmp 145, .tmp 146], some 147, some (144, true)⟩,
   ⟨.un .not (.tmp 147), some 148, some (144, true)⟩,
   ⟨.pick (.tmp 144) (.tmp 148) (.const (.bool false)), some 149, none⟩,
   ⟨.mv (.tmp 149), some 6, none⟩])
  (.ret))))))))))))))))))))
theorem ok3 : FnOk Tryz.prog 3 150 R3 [.t 6] := ⟨_, _, rfl, rfl, rfl, by kernel_rfl, by kernel_rfl⟩

/-- tintype/find.CondText -/
def R15 : RC :=
  .seq (.reg [⟨.box 26 6 (.tmp 0), some 1, none⟩,
   ⟨.mv (.const (.string ⟨#[]⟩)), some 2, none⟩,
   ⟨.mv (.const (.int .i64 0)), some 3, none⟩])
  (.seq (.seq (.reg [⟨.ldn 6 (.tmp 1), some 7, none⟩,
   ⟨.call 52 [.tmp 7], some 8, none⟩,
   ⟨.mv (.tmp 8), some 4, none⟩])
  (.seq (.reg [⟨.mv (.tmp 4), some 9, none⟩,
   ⟨.bin .neq (.tmp 9) (.const (.int .i64 0)), some 10, none⟩])
  (.cond (.tmp 10) (.seq (.reg [⟨.mv (.tmp 4), some 11, none⟩,
     ⟨.mv (.const (.string ⟨#[]⟩)), some 2, none⟩,
     ⟨.mv (.tmp 11), some 3, none⟩])
    (.ret))
  (.skip))))
  (.seq (.reg [⟨.ldn 6 (.tmp 1), some 13, none⟩,
   ⟨.call 53 [.tmp 13], some 14, none⟩,
   ⟨.mv (.tmp 14), some 12, none⟩,
   ⟨.ext 0 (.tmp 12), some 15, none⟩,
   ⟨.ext 1 (.tmp 12), some 16, none⟩,
   ⟨.mv (.tmp 15), some 5, none⟩,
   ⟨.mv (.tmp 16), some 6, none⟩])
  (.seq (.seq (.reg [⟨.mv (.tmp 6), some 17, none⟩,
   ⟨.bin .neq (.tmp 17) (.const (.int .i64 0)), some 18, none⟩])
  (.cond (.tmp 18) (.seq (.reg [⟨.mv (.tmp 6), some 19, none⟩,
     ⟨.mv (.const (.string ⟨#[]⟩)), some 2, none⟩,
     ⟨.mv (.tmp 19), some 3, none⟩])
    (.ret))
  (.skip)))
  (.seq (.seq (.reg [⟨.mv (.tmp 5), some 20, none⟩,
   ⟨.lens (.tmp 20), some 21, none⟩,
   ⟨.bin .gtr (.tmp 21) (.const (.int .i64 1000000)), some 22, none⟩])
  (.cond (.tmp 22) (.seq (.reg [⟨.mv (.const (.string ⟨#[]⟩)), some 2, none⟩,
     ⟨.mv (.const (.int .i64 4)), some 3, none⟩])
    (.ret))
  (.skip)))
  (.seq (.reg [⟨.mv (.tmp 5), some 23, none⟩,
   ⟨.mv (.tmp 23), some 2, none⟩,
   ⟨.mv (.const (.int .i64 0)), some 3, none⟩])
  (.ret))))))
theorem ok15 : FnOk Tryz.prog 15 24 R15 [.t 2, .t 3] := ⟨_, _, rfl, rfl, rfl, by kernel_rfl, by kernel_rfl⟩

/-- tintype/find.condText -/
def R53 : RC :=
  .seq (.reg [⟨.box 26 6 (.tmp 0), some 1, none⟩,
   ⟨.mv (.const (.string ⟨#[]⟩)), some 2, none⟩,
   ⟨.mv (.const (.int .i64 0)), some 3, none⟩])
  (.seq (.reg [⟨.fa 0 (.tmp 1), some 12, none⟩,
   ⟨.ld1 (.tmp 12), some 13, none⟩,
   ⟨.call 76 [.tmp 13], some 14, none⟩,
   ⟨.mv (.tmp 14), some 4, none⟩])
  (.seq (.seq (.reg [⟨.fa 0 (.tmp 1), some 15, none⟩,
   ⟨.ld1 (.tmp 15), some 16, none⟩])
  (.blk 0 (.seq (.seq (.reg [⟨.bin .eql (.tmp 16) (.const (.int .i64 1)), some 18, none⟩,
     ⟨.mv (.tmp 18), some 17, none⟩])
    (.cond (.tmp 17) (.skip)
    (.seq (.reg [⟨.bin .eql (.tmp 16) (.const (.int .i64 2)), some 19, none⟩,
       ⟨.mv (.tmp 19), some 17, none⟩])
      (.cond (.tmp 17) (.skip)
      (.reg [⟨.bin .eql (.tmp 16) (.const (.int .i64 3)), some 20, none⟩,
         ⟨.mv (.tmp 20), some 17, none⟩])))))
    (.cond (.tmp 17) (.seq (.reg [⟨.mv (.const (.slice none 0 0)), some 5, none⟩])
      (.seq (.seq (.reg [⟨.fa 1 (.tmp 1), some 21, none⟩,
       ⟨.ld1 (.tmp 21), some 22, none⟩,
       ⟨.len (.tmp 22), some 23, none⟩,
       ⟨.mv (.const (.int .i64 0)), some 24, none⟩])
      (.blk 1 (.loop (.seq (.reg [⟨.bin .lss (.tmp 24) (.tmp 23), some 25, none⟩])
          (.seq (.cond (.tmp 25) (.skip)
          (.exit 1))
          (.seq (.blk 2 (.seq (.reg [⟨.ia 6 (.tmp 22) (.tmp 24), some 26, none⟩,
             ⟨.ldn 6 (.tmp 26), some 27, none⟩,
             ⟨.alloc 26 [.int .i64 0, .slice none 0 0, .string ⟨#[]⟩, .int .i64 0, .int .i64 0, .slice none 0 0], some 7, none⟩,
             ⟨.stn 6 (.tmp 7) (.tmp 27), none, none⟩])
            (.seq (.reg [⟨.ldn 6 (.tmp 7), some 29, none⟩,
             ⟨.call 53 [.tmp 29], some 30, none⟩,
             ⟨.mv (.tmp 30), some 28, none⟩,
             ⟨.ext 0 (.tmp 28), some 31, none⟩,
             ⟨.ext 1 (.tmp 28), some 32, none⟩,
             ⟨.mv (.tmp 31), some 8, none⟩,
             ⟨.mv (.tmp 32), some 9, none⟩])
            (.seq (.seq (.reg [⟨.mv (.tmp 9), some 33, none⟩,
             ⟨.bin .neq (.tmp 33) (.const (.int .i64 0)), some 34, none⟩])
            (.cond (.tmp 34) (.seq (.reg [⟨.mv (.tmp 9), some 35, none⟩,
               ⟨.mv (.const (.string ⟨#[]⟩)), some 2, none⟩,
               ⟨.mv (.tmp 35), some 3, none⟩])
              (.ret))
            (.skip)))
            (.reg [⟨.mv (.tmp 5), some 36, none⟩,
             ⟨.mv (.tmp 8), some 37, none⟩,
             ⟨.bslice 9 1 1 [.string ⟨#[]⟩] [(0, .tmp 37)], some 38, none⟩,
             ⟨.append 9 1 16 (.string ⟨#[]⟩) (.tmp 36) (.tmp 38), some 39, none⟩,
             ⟨.mv (.tmp 39), some 5, none⟩])))))
          (.reg [⟨.bin .add (.tmp 24) (.const (.int .i64 1)), some 40, none⟩,
           ⟨.mv (.tmp 40), some 24, none⟩])))))))
      (.seq (.reg [⟨.mv (.tmp 4), some 41, none⟩,
       ⟨.mv (.tmp 5), some 42, none⟩,
       ⟨.call 77 [.tmp 42, .const (.string ⟨#[44, 32]⟩)], some 43, none⟩,
       ⟨.bin .add (.tmp 41) (.tmp 43), some 44, none⟩,
       ⟨.bin .add (.tmp 44) (.const (.string ⟨#[41]⟩)), some 45, none⟩,
       ⟨.mv (.tmp 45), some 2, none⟩,
       ⟨.mv (.const (.int .i64 0)), some 3, none⟩])
      (.ret))))
    (.seq (.reg [⟨.bin .eql (.tmp 16) (.const (.int .i64 4)), some 47, none⟩,
       ⟨.mv (.tmp 47), some 46, none⟩])
      (.cond (.tmp 46) (.seq (.reg [⟨.mv (.tmp 4), some 48, none⟩,
         ⟨.fa 2 (.tmp 1), some 49, none⟩,
         ⟨.ld1 (.tmp 49), some 50, none⟩,
         ⟨.bin .add (.tmp 48) (.tmp 50), some 51, none⟩,
         ⟨.mv (.tmp 51), some 2, none⟩,
         ⟨.mv (.const (.int .i64 0)), some 3, none⟩])
        (.ret))
      (.seq (.reg [⟨.bin .eql (.tmp 16) (.const (.int .i64 5)), some 53, none⟩,
         ⟨.mv (.tmp 53), some 52, none⟩])
        (.cond (.tmp 52) (.seq (.reg [⟨.mv (.tmp 4), some 54, none⟩,
           ⟨.fa 2 (.tmp 1), some 55, none⟩,
           ⟨.ld1 (.tmp 55), some 56, none⟩,
           ⟨.call 78 [.tmp 56], some 57, none⟩,
           ⟨.bin .add (.tmp 54) (.tmp 57), some 58, none⟩,
           ⟨.mv (.tmp 58), some 2, none⟩,
           ⟨.mv (.const (.int .i64 0)), some 3, none⟩])
          (.ret))
        (.seq (.reg [⟨.bin .eql (.tmp 16) (.const (.int .i64 6)), some 60, none⟩,
           ⟨.mv (.tmp 60), some 59, none⟩])
          (.cond (.tmp 59) (.seq (.reg [⟨.mv (.tmp 4), some 61, none⟩,
             ⟨.fa 3 (.tmp 1), some 62, none⟩,
             ⟨.ld1 (.tmp 62), some 63, none⟩,
             ⟨.call 79 [.tmp 63], some 64, none⟩,
             ⟨.bin .add (.tmp 61) (.tmp 64), some 65, none⟩,
             ⟨.mv (.tmp 65), some 2, none⟩,
             ⟨.mv (.const (.int .i64 0)), some 3, none⟩])
            (.ret))
          (.seq (.reg [⟨.bin .eql (.tmp 16) (.const (.int .i64 7)), some 67, none⟩,
             ⟨.mv (.tmp 67), some 66, none⟩])
            (.cond (.tmp 66) (.seq (.drw [⟨.mv (.tmp 4), some 68, none⟩,
               ⟨.fa 3 (.tmp 1), some 69, none⟩,
               ⟨.ld1 (.tmp 69), some 70, none⟩,
               ⟨.call 79 [.tmp 70], some 71, none⟩,
               ⟨.bin .add (.tmp 68) (.tmp 71), some 72, none⟩,
               ⟨.bin .add (.tmp 72) (.const (.string ⟨#[46, 46]⟩)), some 73, none⟩,
               ⟨.fa 4 (.tmp 1), some 74, none⟩,
               ⟨.ld1 (.tmp 74), some 75, none⟩,
               ⟨.call 79 [.tmp 75], some 76, none⟩,
               ⟨.bin .add (.tmp 73) (.tmp 76), some 77, none⟩,
               ⟨.mv (.tmp 77), some 2, none⟩,
               ⟨.mv (.const (.int .i64 0)), some 3, none⟩] [[], [], [1], [2], [0, 3], [4], [], [6], [7, 3], [5, 8], [9, 8, 0, 1, 2, 3, 4, 5, 6, 7, 8, 9], [10, 0, 1, 2, 3, 4, 5, 6, 7, 8, 9, 10]])
              (.ret))
            (.seq (.reg [⟨.bin .eql (.tmp 16) (.const (.int .i64 8)), some 79, none⟩,
               ⟨.mv (.tmp 79), some 78, none⟩])
              (.cond (.tmp 78) (.seq (.reg [⟨.fa 3 (.tmp 1), some 81, none⟩,
                 ⟨.ld1 (.tmp 81), some 82, none⟩,
                 ⟨.fa 4 (.tmp 1), some 83, none⟩,
                 ⟨.ld1 (.tmp 83), some 84, none⟩,
                 ⟨.build [.int .i64 0, .int .i64 0] [(0, 1, .tmp 82), (1, 1, .tmp 84)], some 85, none⟩,
                 ⟨.call 80 [.tmp 85], some 86, none⟩,
                 ⟨.mv (.tmp 86), some 80, none⟩,
                 ⟨.ext 0 (.tmp 80), some 87, none⟩,
                 ⟨.ext 1 (.tmp 80), some 88, none⟩,
                 ⟨.mv (.tmp 87), some 10, none⟩,
                 ⟨.mv (.tmp 88), some 11, none⟩])
                (.seq (.reg [⟨.mv (.tmp 4), some 89, none⟩,
                 ⟨.mv (.tmp 10), some 90, none⟩,
                 ⟨.bin .add (.tmp 89) (.tmp 90), some 91, none⟩,
                 ⟨.mv (.tmp 11), some 92, none⟩,
                 ⟨.mv (.tmp 91), some 2, none⟩,
                 ⟨.mv (.tmp 92), some 3, none⟩])
                (.ret)))
              (.seq (.reg [⟨.bin .eql (.tmp 16) (.const (.int .i64 14)), some 94, none⟩,
                 ⟨.mv (.tmp 94), some 93, none⟩])
                (.cond (.tmp 93) (.seq (.drw [⟨.mv (.tmp 4), some 95, none⟩,
                   ⟨.fa 3 (.tmp 1), some 96, none⟩,
                   ⟨.ld1 (.tmp 96), some 97, none⟩,
                   ⟨.call 79 [.tmp 97], some 98, none⟩,
                   ⟨.bin .add (.tmp 95) (.tmp 98), some 99, none⟩,
                   ⟨.bin .add (.tmp 99) (.const (.string ⟨#[32, 111, 102, 32]⟩)), some 100, none⟩,
                   ⟨.fa 5 (.tmp 1), some 101, none⟩,
                   ⟨.ld1 (.tmp 101), some 102, none⟩,
                   ⟨.call 81 [.tmp 102], some 103, none⟩,
                   ⟨.bin .add (.tmp 100) (.tmp 103), some 104, none⟩,
                   ⟨.mv (.tmp 104), some 2, none⟩,
                   ⟨.mv (.const (.int .i64 0)), some 3, none⟩] [[], [], [1], [2], [0, 3], [4], [], [6], [7, 3], [5, 8], [9, 8, 0, 1, 2, 3, 4, 5, 6, 7, 8, 9], [10, 0, 1, 2, 3, 4, 5, 6, 7, 8, 9, 10]])
                  (.ret))
                (.seq (.reg [⟨.bin .eql (.tmp 16) (.const (.int .i64 15)), some 106, none⟩,
                   ⟨.mv (.tmp 106), some 105, none⟩])
                  (.cond (.tmp 105) (.seq (.reg [⟨.mv (.tmp 4), some 107, none⟩,
                     ⟨.fa 5 (.tmp 1), some 108, none⟩,
                     ⟨.ld1 (.tmp 108), some 109, none⟩,
                     ⟨.call 81 [.tmp 109], some 110, none⟩,
                     ⟨.bin .add (.tmp 107) (.tmp 110), some 111, none⟩,
                     ⟨.mv (.tmp 111), some 2, none⟩,
                     ⟨.mv (.const (.int .i64 0)), some 3, none⟩])
                    (.ret))
                  (.skip)))))))))))))))))))
  (.seq (.reg [⟨.mv (.tmp 4), some 112, none⟩,
   ⟨.mv (.tmp 112), some 2, none⟩,
   ⟨.mv (.const (.int .i64 0)), some 3, none⟩])
  (.ret))))
theorem ok53 : FnOk Tryz.prog 53 113 R53 [.t 2, .t 3] := ⟨_, _, rfl, rfl, rfl, by kernel_rfl, by kernel_rfl⟩


end Go.Proofs.YtmolncgdehfejaaGreatDoor

/- Contracts: ids of photos, what is found. -/
namespace Go.Proofs.YtmolncgdehfejaaGreatDoor
open Go
set_option maxRecDepth 10000

theorem clipInt_ct (A : Option Addr) (n c : Nat) (g : Gh) (h : n ≤ c) : Ct Tryz.prog 89 [.slice A n c] g (fun r g' => r = .slice (cutA A 1 0 n) n n ∧ g' = g) := by
  refine enter ok89 (by simp) fun W => ?_
  refine vc_slg 100 0 n n rfl rfl rfl rfl ⟨_, rfl⟩ ⟨⟨_, rfl⟩, rfl⟩ (by omega) (by omega) h ?_
  exact vc_ret0 100 rfl rfl ⟨rfl, rfl⟩

theorem cutA_zero (β off size n : Nat) : cutA (some ⟨β, off, none⟩) size 0 n = some ⟨β, off, none⟩ := by
  unfold cutA
  split
  · rfl
  · simp [Addr.add]

theorem ids_ct (v : Value) (l : List Pho) (g : Gh) (hv : PhosV g v l) (hl : l.length ≤ 1000) :
    Ct Tryz.prog 60 [v] g (fun r g' => Sl g' 1 IntR r (l.map (·.id))) := by
  obtain ⟨A, c, rfl, hlen, hat⟩ := hv
  refine enter ok60 (by simp) fun W => ?_
  refine vc_nilrow 100 3 0 3 rfl rfl rfl ?_
  refine vc_loop 100 rfl [3, 6, 7, 8] (fun m vs bs g' => ∃ (k : Nat) (spare : List Value) (blk : Option Nat) (cap : Nat), k ≤ l.length ∧ m = l.length - k ∧
      vs = [.c (.s 0 0 k cap), .c (.v (.slice A l.length c)), .c (.v (.int .i64 (l.length : Int))), .c (.v (.int .i64 (k : Int)))] ∧
      bs = [⟨blk, 3, ((l.take k).map fun p => Value.int .i64 p.id).map .v ++ spare.map .v, true⟩] ∧ g' = g ∧ RowOk blk 1 k cap (((l.take k).map fun p => Value.int .i64 p.id).map .v) (spare.map .v)) l.length
    ⟨0, [], none, 0, Nat.zero_le _, rfl, rfl, rfl, rfl, ⟨rfl, Nat.le_refl _, Nat.zero_le _, rfl, fun _ => rfl⟩⟩ ?_
  rintro m vs bs' g' ⟨k, spare, blk, cap, hkl, rfl, rfl, rfl, rfl, hrow⟩
  refine vc_if 100 rfl rfl rfl (fun h0 => ?_) (fun h0 => ?_)
  · have hlt : k < l.length := by have := of_decide_eq_true h0; omega
    obtain ⟨β', off, cs, rfl, hcs, hrow', hpr⟩ := hat k l[k] (nth_get hlt)
    have htake : (l.take (k + 1)).map (fun p => Value.int .i64 p.id) = (l.take k).map (fun p => Value.int .i64 p.id) ++ [.int .i64 l[k].id] := by
      rw [List.take_succ_eq_append_getElem hlt, List.map_append]; rfl
    generalize l[k] = p at *
    obtain ⟨_, _, _, rfl, ⟨A1, c1, rfl, _⟩, ⟨A2, c2, rfl, _⟩, ⟨A3, c3, rfl, _⟩, _⟩ := hpr
    refine vc_ia 100 rfl rfl rfl rfl (by omega) (by omega) ?_
    refine vc_ldn 100 _ rfl rfl rfl rfl hrow' ?_
    refine vc_alloc 100 1 rfl rfl rfl fun β4 => ?_
    refine vc_bslice 100 2 rfl rfl rfl rfl rfl fun β5 => ?_
    refine vc_append 100 3 _ (spare.map .v) (news := [.v (.int .i64 p.id)]) rfl rfl rfl rfl rfl rfl hrow rfl rfl rfl rfl (by decide) rfl (by omega) (by omega) (by simp only [maxLen]; omega) (by omega) fun β6 cap' spare' hrow2 => ?_
    refine vc_arith 100 rfl rfl rfl rfl rfl ((k + 1 : Nat) : Int) (wr (by omega) (by omega) (by omega)) ?_
    refine vc_fin 100 rfl ⟨l.length - (k + 1), [3], by omega, rfl, k + 1, spare', some β6, cap', by omega, rfl, rfl, ?_, rfl, ?_⟩
    · have e6 : List.map (ren [3]) ((((l.take k).map fun p => Value.int .i64 p.id).map C1.v ++ [.v (.int .i64 p.id)]) ++ spare'.map C1.v) = ((l.take (k + 1)).map fun p => Value.int .i64 p.id).map C1.v ++ spare'.map C1.v := by
        rw [List.map_append, List.map_append, ren_vals, ren_vals, htake, List.map_append]; rfl
      exact congrArg (fun l => [(⟨some β6, 3, l, true⟩ : Bx)]) e6
    · rw [htake, List.map_append]; exact hrow2
  · have hkn : k = l.length := by have := of_decide_eq_false h0; omega
    subst hkn
    rw [List.take_length] at *
    have hkc := hrow.2.1
    cases blk with
    | none =>
      have hc0 := hrow.2.2.2.2 rfl
      subst hc0
      obtain rfl : l = [] := List.eq_nil_of_length_eq_zero (by omega)
      refine vc_call 100 rfl rfl rfl (clipInt_ct none 0 0 _ (by omega)) ?_; rintro _ _ - ⟨rfl, rfl⟩
      refine vc_ret0 100 rfl rfl ?_
      exact ⟨none, 0, rfl, by simp, fun j p hj => by simp [nth] at hj⟩
    | some β =>
      refine vc_call 100 rfl rfl rfl (clipInt_ct (some ⟨β, 0, none⟩) l.length cap _ hkc) ?_; rintro _ _ - ⟨rfl, rfl⟩
      refine vc_ret 100 rfl rfl fun g' hle hpub => ?_
      refine ⟨some ⟨β, 0, none⟩, l.length, by rw [cutA_zero, List.length_map]; rfl, by rw [List.length_map]; omega, fun j n hj => ?_⟩
      have hj' : nth (l.map fun p => Value.int .i64 p.id) j = some (.int .i64 n) := by
        rw [nth_map] at hj ⊢
        cases hq : nth l j with
        | none => rw [hq] at hj; cases hj
        | some p => rw [hq] at hj; simp only [Option.map_some, Option.some.injEq] at hj ⊢; rw [hj]
      have hI : I64 n := by
        rw [nth_map] at hj
        cases hq : nth l j with
        | none => rw [hq] at hj; cases hj
        | some p =>
          rw [hq] at hj; simp only [Option.map_some, Option.some.injEq] at hj; subst hj
          obtain ⟨_, _, _, _, _, _, ⟨_, _, _, _, _, _, _, hh⟩⟩ := hat j p hq
          exact hh.1
      refine ⟨β, 0, [.int .i64 n], rfl, rfl, fun o u ho => ?_, rfl, hI⟩
      cases o with
      | succ o => simp [nth] at ho
      | zero =>
        simp only [nth, Option.some.injEq] at ho; subst ho
        refine hpub 0 _ β rfl rfl rfl (0 + j * 1 + 0) (.v (.int .i64 n)) _ ?_ rfl
        rw [show 0 + j * 1 + 0 = j by omega, nth_append, if_pos (by have := nth_lt hj'; rw [List.length_map]; exact this), nth_map, hj']; rfl

theorem checkFrom_all : ∀ (l : List Pho) (o : Option Pho), checkFrom o l = 0 → ∀ p ∈ l, checkPhotoI p = 0
  | [], _, _, p, h => by simp at h
  | q :: r, o, h, p, hp => by
    rw [checkFrom] at h
    obtain ⟨a, b⟩ := andThen_zero h
    split at b
    · cases b
    · rcases List.mem_cons.1 hp with rfl | hp
      · exact a
      · exact checkFrom_all r _ b p hp
theorem check_all {l : List Pho} (h : checkI l = 0) : l.length ≤ 1000 ∧ ∀ p ∈ l, PhoN p := by
  unfold checkI at h
  split at h
  · exact ⟨by assumption, fun p hp => phoN (checkFrom_all l _ h p hp)⟩
  · cases h

def findE (l : List Pho) (c : Cnd) : Int := andThen (checkI l) (checkCondI c)
def findL (l : List Pho) (c : Cnd) : List Int := if findE l c = 0 then (l.filter (holdsB c)).map (·.id) else []
theorem nilInts (g : Gh) : Sl g 1 IntR (.slice none 0 0) [] := ⟨none, 0, rfl, by simp, fun j p hj => by simp [nth] at hj⟩
theorem find_ct (v w : Value) (l : List Pho) (c : Cnd) (g : Gh) (hv : PhosV g v l) (hw : CndV g w c) (hm : MaxL g) :
    Ct Tryz.prog 23 [v, w] g (fun r g' => ∃ s, r = .tuple #[s, .int .i64 (findE l c)] ∧ Sl g' 1 IntR s (findL l c)) := by
  have hv0 := hv
  have hw0 := hw
  obtain ⟨A, n, rfl, _⟩ := hv
  obtain ⟨op, kids, text, low, high, pl⟩ := c
  obtain ⟨A1, c1, A2, c2, rfl, _⟩ := hw.parts
  refine enter ok23 (by simp) fun W => ?_
  refine vc_box 100 0 rfl rfl rfl rfl fun β => ?_
  refine vc_call 100 rfl rfl rfl (check_ct _ l _ hv0) ?_
  rintro _ g1 hle1 rfl
  refine vc_if 100 rfl rfl rfl (fun h => ?_) (fun h => ?_)
  · have hne := neqB h
    refine vc_ret0 100 rfl rfl ⟨.slice none 0 0, ?_, ?_⟩
    rotate_left
    · rw [findL, findE, andThen, if_neg hne, if_neg hne]; exact nilInts _
    · rw [findE, andThen, if_neg hne]; rfl
  have h0 := eqB h
  obtain ⟨hl, hn⟩ := check_all h0
  refine vc_call 100 rfl rfl rfl (checkCond_ct _ _ _ (hw0.mono hle1)) ?_
  rintro _ g2 hle2 rfl
  refine vc_if 100 rfl rfl rfl (fun h => ?_) (fun h => ?_)
  · have hne := neqB h
    refine vc_ret0 100 rfl rfl ⟨.slice none 0 0, ?_, ?_⟩
    rotate_left
    · rw [findL, findE, andThen, if_pos h0, if_neg hne]; exact nilInts _
    · rw [findE, andThen, if_pos h0]; rfl
  have hc0 := eqB h
  have hg2 := Le.trans hle1 hle2
  refine vc_call 100 rfl rfl rfl (nodeOf_ct _ _ _ (hw0.mono hg2) (cndW hc0) (hm.mono hg2)) ?_
  rintro nv g3 hle3 hnode
  obtain ⟨T, x, f, rfl, _⟩ := id hnode
  refine vc_call 100 rfl rfl rfl (holding_ct _ _ l _ _ ((hv0.mono hg2).mono hle3) hn hl hnode) ?_
  rintro s g4 hle4 hs
  obtain ⟨A', n', rfl, _⟩ := id hs
  refine vc_call 100 rfl rfl rfl (ids_ct _ _ _ hs (by have := List.length_filter_le (holdsB (.mk op kids text low high pl)) l; omega)) ?_
  rintro r g5 hle5 hr
  obtain ⟨A'', n'', rfl, _⟩ := id hr
  refine vc_ret0 100 rfl rfl ⟨.slice A'' ((l.filter (holdsB (.mk op kids text low high pl))).map (·.id)).length n'', ?_, ?_⟩
  rotate_left
  · rw [findL, findE, andThen, if_pos h0, if_pos hc0]; exact hr
  · rw [findE, andThen, if_pos h0, hc0]; rfl

end Go.Proofs.YtmolncgdehfejaaGreatDoor

/- Contracts: one of n, whether a list holds a number. -/
namespace Go.Proofs.YtmolncgdehfejaaGreatDoor
open Go
set_option maxRecDepth 10000

def wPickI (x n : Int) : Int := (x % 18446744073709551616) % n
theorem wPickI_lt {x n : Int} (h : 0 < n) : 0 ≤ wPickI x n ∧ wPickI x n < n := ⟨Int.emod_nonneg _ (by omega), Int.emod_lt_of_pos _ h⟩
theorem wPick_ct (x n : Int) (g : Gh) (h1 : 0 < n) (h2 : n ≤ 9223372036854775807) : Ct Tryz.prog 18 [.int .i64 x, .int .i64 n] g (fun r g' => r = .int .i64 (wPickI x n) ∧ g' = g) := by
  have hw : ∀ m : Int, IntKind.u64.wrap m = m % 18446744073709551616 := fun m => by simp [IntKind.wrap, IntKind.bits, IntKind.signed]
  obtain ⟨b1, b2⟩ := wPickI_lt (x := x) h1
  refine enter ok18 (by simp) fun W => ?_
  refine vc_convi 100 rfl rfl rfl (x % 18446744073709551616) (hw x) ?_
  refine vc_convi 100 rfl rfl rfl n (by rw [hw]; omega) ?_
  refine vc_quot 100 rfl rfl rfl rfl rfl (by omega) (wPickI x n) (by rw [wPickI, Int.tmod_eq_emod_of_nonneg (by omega)]) ?_
  refine vc_convi 100 rfl rfl rfl (wPickI x n) (wr rfl (by omega) (by omega)) ?_
  exact vc_ret0 100 rfl rfl ⟨rfl, rfl⟩

theorem intIndex_ct (v : Value) (l : List Int) (x : Int) (g : Gh) (hv : Sl g 1 IntR v l) : Ct Tryz.prog 65 [v, .int .i64 x] g (fun r g' => (∃ i, r = .int .i64 i ∧ decide (i ≥ 0) = hasI l x) ∧ g' = g) := by
  obtain ⟨A, c, rfl, hlen, hat⟩ := hv
  refine enter ok65 (by simp) fun W => ?_
  refine vc_loop 100 rfl [0, 1, 7, 8] (fun m vs bs g' => ∃ k : Nat, k ≤ l.length ∧ m = l.length - k ∧ vs = [.c (.v (.slice A l.length c)), .c (.v (.int .i64 x)), .c (.v (.int .i64 (l.length : Int))), .c (.v (.int .i64 (k : Int)))] ∧ bs = [] ∧ g' = g ∧ hasI l x = hasI (l.drop k) x) l.length ⟨0, Nat.zero_le _, rfl, rfl, rfl, rfl, rfl⟩ ?_
  rintro m vs bs' g' ⟨k, hk, rfl, rfl, rfl, rfl, hI⟩
  refine vc_if 100 rfl rfl rfl (fun h => ?_) (fun h => ?_)
  · have hlt : k < l.length := by have := of_decide_eq_true h; omega
    obtain ⟨β', off, cs, rfl, hcs, hrow, ⟨rfl, hx⟩⟩ := hat k l[k] (nth_get hlt)
    rw [dropk hlt, hasI.eq_1 (_ :: _), List.any_cons] at hI
    refine vc_ia 100 rfl rfl rfl rfl (by omega) (by omega) ?_
    refine vc_ld1 100 rfl rfl rfl (v := .int .i64 l[k]) hrow.at0 ?_
    refine vc_if 100 rfl rfl rfl (fun h => ?_) (fun h => ?_)
    · refine vc_ret0 100 rfl rfl ⟨⟨(k : Int), rfl, ?_⟩, rfl⟩
      rw [hI, h]; simp
    · refine vc_arith 100 rfl rfl rfl rfl rfl ((k + 1 : Nat) : Int) (wr (by omega) (by omega) (by omega)) ?_
      refine vc_fin 100 rfl ⟨l.length - (k + 1), [], by omega, rfl, k + 1, by omega, rfl, rfl, rfl, rfl, ?_⟩
      rw [hI, h]; rfl
  · have : k = l.length := by have := of_decide_eq_false h; omega
    refine vc_ret0 100 rfl rfl ⟨⟨-1, rfl, ?_⟩, rfl⟩
    rw [hI, this, List.drop_length]; rfl
theorem intContains_ct (v : Value) (l : List Int) (x : Int) (g : Gh) (hv : Sl g 1 IntR v l) : Ct Tryz.prog 28 [v, .int .i64 x] g (fun r g' => r = .bool (hasI l x) ∧ g' = g) := by
  have hv0 := hv
  obtain ⟨A, c, rfl, hlen, hat⟩ := hv
  refine enter ok28 (by simp) fun W => ?_
  refine vc_call 100 rfl rfl rfl (intIndex_ct _ l x _ hv0) ?_
  rintro _ _ - ⟨⟨i, rfl, hi⟩, rfl⟩
  refine vc_ret0 100 rfl rfl ⟨?_, rfl⟩
  rw [← hi]; rfl
theorem inAll_ct (v : Value) (l : List Int) (x : Int) (β : Nat) (g : Gh) (hb : g β 0 = some v) (hv : Sl g 1 IntR v l) : Ct Tryz.prog 27 [.int .i64 x, .pointer (some ⟨β, 0, none⟩)] g (fun r g' => r = .bool (hasI l x) ∧ g' = g) := by
  have hv0 := hv
  obtain ⟨A, c, rfl, hlen, hat⟩ := hv
  refine enter ok27 (by simp) fun W => ?_
  refine vc_ld1 100 rfl rfl rfl hb ?_
  refine vc_call 100 rfl rfl rfl (intContains_ct _ l x _ hv0) ?_
  rintro _ _ - ⟨rfl, rfl⟩
  exact vc_ret0 100 rfl rfl ⟨rfl, rfl⟩
theorem fn27 : IsFn 27 := ⟨_, rfl, rfl, by kernel_rfl⟩
theorem anyIndex_ct (v w : Value) (l all : List Int) (β : Nat) (g : Gh) (hb : g β 0 = some w) (hw : Sl g 1 IntR w all) (hv : Sl g 1 IntR v l) :
    Ct Tryz.prog 64 [v, .func (.func 27) #[] #[.pointer (some ⟨β, 0, none⟩)]] g (fun v g' => (∃ i, v = .int .i64 i ∧ decide (i ≥ 0) = l.any (hasI all)) ∧ g' = g) := by
  obtain ⟨A, c, rfl, hlen, hat⟩ := hv
  refine enter ok64 (by simp) fun W => ?_
  refine vc_loop 100 rfl [0, 1, 7, 8] (fun m vs bs g' => ∃ k : Nat, k ≤ l.length ∧ m = l.length - k ∧ vs = [.c (.v (.slice A l.length c)), .c (.v (.func (.func 27) #[] #[.pointer (some ⟨β, 0, none⟩)])), .c (.v (.int .i64 (l.length : Int))), .c (.v (.int .i64 (k : Int)))] ∧ bs = [] ∧ g' = g ∧ l.any (hasI all) = (l.drop k).any (hasI all)) l.length ⟨0, Nat.zero_le _, rfl, rfl, rfl, rfl, rfl⟩ ?_
  rintro m vs bs' g' ⟨k, hk, rfl, rfl, rfl, rfl, hI⟩
  refine vc_if 100 rfl rfl rfl (fun h => ?_) (fun h => ?_)
  · have hlt : k < l.length := by have := of_decide_eq_true h; omega
    obtain ⟨β', off, cs, rfl, hcs, hrow, ⟨rfl, hx⟩⟩ := hat k l[k] (nth_get hlt)
    rw [dropk hlt] at hI
    refine vc_ia 100 rfl rfl rfl rfl (by omega) (by omega) ?_
    refine vc_ld1 100 rfl rfl rfl (v := .int .i64 l[k]) hrow.at0 ?_
    refine vc_callv (first := []) (cap := [.pointer (some ⟨β, 0, none⟩)]) 100 rfl rfl rfl rfl fn27 (inAll_ct w all l[k] β _ hb hw) ?_
    rintro _ _ - ⟨rfl, rfl⟩
    refine vc_if 100 rfl rfl rfl (fun h => ?_) (fun h => ?_)
    · refine vc_ret0 100 rfl rfl ⟨⟨(k : Int), rfl, ?_⟩, rfl⟩
      rw [hI, List.any_cons, h]; simp
    · refine vc_arith 100 rfl rfl rfl rfl rfl ((k + 1 : Nat) : Int) (wr (by omega) (by omega) (by omega)) ?_
      refine vc_fin 100 rfl ⟨l.length - (k + 1), [], by omega, rfl, k + 1, by omega, rfl, rfl, rfl, rfl, ?_⟩
      rw [hI, List.any_cons, h]; rfl
  · have : k = l.length := by have := of_decide_eq_false h; omega
    refine vc_ret0 100 rfl rfl ⟨⟨-1, rfl, ?_⟩, rfl⟩
    rw [hI, this]; simp
theorem anyContains_ct (v w : Value) (l all : List Int) (β : Nat) (g : Gh) (hb : g β 0 = some w) (hw : Sl g 1 IntR w all) (hv : Sl g 1 IntR v l) :
    Ct Tryz.prog 26 [v, .func (.func 27) #[] #[.pointer (some ⟨β, 0, none⟩)]] g (fun v g' => v = .bool (l.any (hasI all)) ∧ g' = g) := by
  have hv0 := hv
  obtain ⟨A, c, rfl, hlen, hat⟩ := hv
  refine enter ok26 (by simp) fun W => ?_
  refine vc_call 100 rfl rfl rfl (anyIndex_ct _ w l all β _ hb hw hv0) ?_
  rintro _ _ - ⟨⟨i, rfl, hi⟩, rfl⟩
  refine vc_ret0 100 rfl rfl ⟨?_, rfl⟩
  rw [← hi]; rfl

end Go.Proofs.YtmolncgdehfejaaGreatDoor

/- Contracts: lists of numbers that are equal; the denial of a condition. -/
namespace Go.Proofs.YtmolncgdehfejaaGreatDoor
open Go
set_option maxRecDepth 10000

theorem getD_drop {l : List Int} {k : Nat} (h : k < l.length) : l.drop k = l[k] :: l.drop (k + 1) := dropk h
theorem equal_ct (v w : Value) (l m : List Int) (g : Gh) (hv : Sl g 1 IntR v l) (hw : Sl g 1 IntR w m) : Ct Tryz.prog 21 [v, w] g (fun r g' => r = .bool (l == m) ∧ g' = g) := by
  obtain ⟨A, c, rfl, hlen, hat⟩ := hv
  obtain ⟨B, d, rfl, hlen2, hat2⟩ := hw
  refine enter ok21 (by simp) fun W => ?_
  refine vc_if 100 rfl rfl rfl (fun h => ?_) (fun h => ?_)
  · refine vc_ret0 100 rfl rfl ⟨?_, rfl⟩
    have hne := neqB h
    have : (l == m) = false := by
      rw [beq_eq_false_iff_ne]; rintro rfl; exact hne rfl
    rw [this]; rfl
  have hlm : l.length = m.length := by have := eqB h; omega
  refine vc_loop 100 rfl [0, 1, 12, 13] (fun q vs bs g' => ∃ k : Nat, k ≤ l.length ∧ q = l.length - k ∧ vs = [.c (.v (.slice A l.length c)), .c (.v (.slice B m.length d)), .c (.v (.int .i64 (l.length : Int))), .c (.v (.int .i64 (k : Int)))] ∧ bs = [] ∧ g' = g ∧ l.take k = m.take k) l.length ⟨0, Nat.zero_le _, rfl, rfl, rfl, rfl, rfl⟩ ?_
  rintro q vs bs' g' ⟨k, hk, rfl, rfl, rfl, rfl, hI⟩
  refine vc_if 100 rfl rfl rfl (fun h => ?_) (fun h => ?_)
  · have hlt : k < l.length := by have := of_decide_eq_true h; omega
    have hlt2 : k < m.length := by omega
    obtain ⟨β, off, cs, rfl, hcs, hrow, ⟨rfl, hx⟩⟩ := hat k l[k] (nth_get hlt)
    obtain ⟨β2, off2, cs2, rfl, hcs2, hrow2, ⟨rfl, hx2⟩⟩ := hat2 k m[k] (nth_get hlt2)
    refine vc_drawF mix 100 rfl [2, 3, 6, 7] (fun i => match i with | 2 => .c (.v (.pointer (some ⟨β, off + k * 1, none⟩))) | 3 => .c (.v (.int .i64 l[k])) | 6 => .c (.v (.pointer (some ⟨β2, off2 + k * 1, none⟩))) | _ => .c (.v (.int .i64 m[k]))) rfl rfl ⟨?_, ?_, ?_, ?_, trivial⟩ ?_
    · refine vc_ia 100 rfl rfl rfl rfl (by omega) (by omega) ?_
      exact vc_fin 100 rfl ⟨rfl, rfl, fun d hd => by injection hd with hd; subst hd; rfl⟩
    · refine vc_ld1 100 rfl rfl rfl (v := .int .i64 l[k]) hrow.at0 ?_
      exact vc_fin 100 rfl ⟨rfl, rfl, fun d hd => by injection hd with hd; subst hd; rfl⟩
    · refine vc_ia 100 rfl rfl rfl rfl (by omega) (by omega) ?_
      exact vc_fin 100 rfl ⟨rfl, rfl, fun d hd => by injection hd with hd; subst hd; rfl⟩
    · refine vc_ld1 100 rfl rfl rfl (v := .int .i64 m[k]) hrow2.at0 ?_
      exact vc_fin 100 rfl ⟨rfl, rfl, fun d hd => by injection hd with hd; subst hd; rfl⟩
    refine vc_if 100 rfl rfl rfl (fun h => ?_) (fun h => ?_)
    · refine vc_ret0 100 rfl rfl ⟨?_, rfl⟩
      have hne := neqB h
      have : (l == m) = false := by
        rw [beq_eq_false_iff_ne]; intro e; subst e; exact hne rfl
      rw [this]; rfl
    · have he := eqB h
      refine vc_arith 100 rfl rfl rfl rfl rfl ((k + 1 : Nat) : Int) (wr (by omega) (by omega) (by omega)) ?_
      refine vc_fin 100 rfl ⟨l.length - (k + 1), [], by omega, rfl, k + 1, by omega, rfl, rfl, rfl, rfl, ?_⟩
      rw [List.take_succ_eq_append_getElem hlt, List.take_succ_eq_append_getElem hlt2, hI, he]
  · have : k = l.length := by have := of_decide_eq_false h; omega
    refine vc_ret0 100 rfl rfl ⟨?_, rfl⟩
    rw [this, List.take_length, hlm, List.take_length] at hI
    rw [hI, beq_self_eq_true]; rfl

theorem wOf_ct (op : Int) (A : Option Addr) (n c : Nat) (g : Gh) : Ct Tryz.prog 32 [.int .i64 op, .slice A n c] g (fun r g' => r = .agg #[.int .i64 op, .slice A n c, .string ⟨#[]⟩, .int .i64 0, .int .i64 0, .slice none 0 0] ∧ g' = g) := by
  refine enter ok32 (by simp) fun W => ?_
  refine vc_alloc 100 0 rfl rfl rfl fun β => ?_
  exact vc_ret0 100 rfl rfl ⟨rfl, rfl⟩

/-- A condition of others. -/
def ofC' (op : Int) (ks : List Cnd) : Cnd := .mk op ks ⟨#[]⟩ 0 0 []
theorem nilPl (g : Gh) : Sl g 2 PlcR (.slice none 0 0) [] := ⟨none, 0, rfl, by simp, fun j p hj => by simp [nth] at hj⟩
theorem CndR.make {g : Gh} {op : Int} {A : Option Addr} {c : Nat} {ks : List Cnd} (hk : Sl g 6 (CndR g) (.slice A ks.length c) ks) (ho : I64 op) :
    CndR g [.int .i64 op, .slice A ks.length c, .string ⟨#[]⟩, .int .i64 0, .int .i64 0, .slice none 0 0] (ofC' op ks) := by
  rw [ofC', CndR]
  exact ⟨_, _, rfl, (kidsR_iff _ _ _).2 hk, nilPl g, ho, by decide, by unfold I64; omega, by unfold I64; omega⟩
theorem wNo_ct (v : Value) (k : Cnd) (g : Gh) (hv : CndV g v k) : Ct Tryz.prog 24 [v] g (fun r g' => CndV g' r (ofC' 3 [k])) := by
  obtain ⟨op, kids, text, low, high, pl⟩ := k
  obtain ⟨cells, rfl, hcr⟩ := hv
  obtain ⟨A1, c1, A2, c2, rfl, _⟩ := id hcr.parts
  refine enter ok24 (by simp) fun W => ?_
  refine vc_box 100 0 rfl rfl rfl rfl fun β => ?_
  refine vc_alloc 100 1 rfl rfl rfl fun β1 => ?_
  refine vc_bslice 100 2 rfl rfl rfl rfl rfl fun β2 => ?_
  refine vc_call 100 rfl rfl rfl (wOf_ct 3 (some ⟨β2, 0, none⟩) 1 1 _) ?_
  rintro _ _ - ⟨rfl, rfl⟩
  refine vc_ret 100 rfl rfl fun g' hle hpub => ⟨_, rfl, ?_⟩
  refine CndR.make (ks := [.mk op kids text low high pl]) ⟨_, 1, rfl, by simp, fun j x hj => ?_⟩ (by unfold I64; omega)
  cases j with
  | succ j => simp [nth] at hj
  | zero =>
    simp only [nth, Option.some.injEq] at hj; subst hj
    refine ⟨β2, 0, _, rfl, rfl, fun o u ho => ?_, CndR.mono hle _ _ hcr⟩
    refine hpub 2 _ β2 rfl rfl rfl (0 + 0 * 6 + o) (.v u) u ?_ rfl
    rw [show 0 + 0 * 6 + o = o by omega]
    have : nth (List.map C1.v [.int .i64 op, .slice A1 kids.length c1, .string text, .int .i64 low, .int .i64 high, .slice A2 pl.length c2]) o = some (.v u) := by rw [nth_map, ho]; rfl
    exact this

end Go.Proofs.YtmolncgdehfejaaGreatDoor

/- Contracts: how photos are compared. -/
namespace Go.Proofs.YtmolncgdehfejaaGreatDoor
open Go
set_option maxRecDepth 10000

theorem u4 : Tryz.prog.underlying 4 = some .bool := by kernel_rfl
def cmpII (x y : Int) : Int := if x < y then -1 else if x > y then 1 else 0
def cmpSS (x y : ByteArray) : Int := if Op.bytesLess x.toList y.toList then -1 else if !(Op.bytesLess x.toList y.toList || x.toList == y.toList) then 1 else 0
theorem cmpII_b (x y : Int) : -1 ≤ cmpII x y ∧ cmpII x y ≤ 1 := by unfold cmpII; repeat' split <;> omega
theorem cmpSS_b (x y : ByteArray) : -1 ≤ cmpSS x y ∧ cmpSS x y ≤ 1 := by unfold cmpSS; repeat' split <;> omega
theorem nanInt_ct (x : Int) (g : Gh) : Ct Tryz.prog 122 [.int .i64 x] g (fun r g' => r = .bool false ∧ g' = g) := by
  refine enter ok122 (by simp) fun W => ?_
  refine vc_ret0 100 rfl rfl ⟨?_, rfl⟩
  simp [tup]
theorem nanStr_ct (x : ByteArray) (g : Gh) : Ct Tryz.prog 156 [.string x] g (fun r g' => r = .bool false ∧ g' = g) := by
  refine enter ok156 (by simp) fun W => ?_
  refine vc_ret0 100 rfl rfl ⟨?_, rfl⟩
  simp [tup]
theorem cmpInt_ct (x y : Int) (g : Gh) : Ct Tryz.prog 86 [.int .i64 x, .int .i64 y] g (fun r g' => r = .int .i64 (cmpII x y) ∧ g' = g) := by
  refine enter ok86 (by simp) fun W => ?_
  refine vc_call 100 rfl rfl rfl (nanInt_ct x _) ?_; rintro _ _ - ⟨rfl, rfl⟩
  refine vc_call 100 rfl rfl rfl (nanInt_ct y _) ?_; rintro _ _ - ⟨rfl, rfl⟩
  refine vc_if 100 rfl rfl rfl (fun h => by cases h) (fun _ => ?_)
  refine vc_if 100 rfl rfl rfl (fun h => by cases h) (fun _ => ?_)
  refine vc_if 100 rfl rfl rfl (fun h1 => ?_) (fun h1 => ?_)
  · refine vc_ret0 100 rfl rfl ⟨?_, rfl⟩
    rw [cmpII, if_pos (of_decide_eq_true h1)]; rfl
  refine vc_if 100 rfl rfl rfl (fun h2 => ?_) (fun h2 => ?_)
  · refine vc_ret0 100 rfl rfl ⟨?_, rfl⟩
    rw [cmpII, if_neg (of_decide_eq_false h1), if_pos (of_decide_eq_true h2)]; rfl
  · refine vc_ret0 100 rfl rfl ⟨?_, rfl⟩
    rw [cmpII, if_neg (of_decide_eq_false h1), if_neg (of_decide_eq_false h2)]; rfl
theorem cmpStr_ct (x y : ByteArray) (g : Gh) : Ct Tryz.prog 97 [.string x, .string y] g (fun r g' => r = .int .i64 (cmpSS x y) ∧ g' = g) := by
  refine enter ok97 (by simp) fun W => ?_
  refine vc_call 100 rfl rfl rfl (nanStr_ct x _) ?_; rintro _ _ - ⟨rfl, rfl⟩
  refine vc_call 100 rfl rfl rfl (nanStr_ct y _) ?_; rintro _ _ - ⟨rfl, rfl⟩
  refine vc_if 100 rfl rfl rfl (fun h => by cases h) (fun _ => ?_)
  refine vc_if 100 rfl rfl rfl (fun h => by cases h) (fun _ => ?_)
  refine vc_if 100 rfl rfl rfl (fun h1 => ?_) (fun h1 => ?_)
  · refine vc_ret0 100 rfl rfl ⟨?_, rfl⟩
    rw [cmpSS, if_pos h1]; rfl
  refine vc_if 100 rfl rfl rfl (fun h2 => ?_) (fun h2 => ?_)
  · refine vc_ret0 100 rfl rfl ⟨?_, rfl⟩
    rw [cmpSS, if_neg (by rw [h1]; simp), if_pos h2]; rfl
  · refine vc_ret0 100 rfl rfl ⟨?_, rfl⟩
    rw [cmpSS, if_neg (by rw [h1]; simp), if_neg (by rw [h2]; simp)]; rfl

def compareI (s : Srt) (a b : Pho) : Int :=
  if s.by_ = 2 ∧ (decide (a.moment < 0) ≠ decide (b.moment < 0)) then cmpII b.moment a.moment else
  let n := if s.by_ = 1 then cmpII a.id b.id else if s.by_ = 2 then cmpII a.moment b.moment else if s.by_ = 3 then cmpII a.stars b.stars else if s.by_ = 4 then cmpII (a.w * a.h) (b.w * b.h) else if s.by_ = 5 then cmpSS a.caption b.caption else 0
  if s.down then -n else n

theorem mul_bound {a b : Int} (h1 : 1 ≤ a) (h2 : a ≤ 100000) (h3 : 1 ≤ b) (h4 : b ≤ 100000) : 0 ≤ a * b ∧ a * b ≤ 10000000000 := by
  refine ⟨Int.mul_nonneg (by omega) (by omega), ?_⟩
  have := Int.mul_le_mul h2 h4 (by omega) (by omega)
  simpa using this
theorem compare_ct {g : Gh} (s : Srt) {v w : Value} {a b : Pho} (hv : PhoV g v a) (hw : PhoV g w b) (ha : PhoN a) (hb : PhoN b) :
    Ct Tryz.prog 85 [.agg #[.int .i64 s.by_, .bool s.down], v, w] g (fun r g' => r = .int .i64 (compareI s a b) ∧ g' = g) := by
  obtain ⟨by_, down⟩ := s
  obtain ⟨_, rfl, _, _, _, rfl, ⟨A1, c1, rfl, -⟩, ⟨A2, c2, rfl, -⟩, ⟨A3, c3, rfl, -⟩, -⟩ := hv
  obtain ⟨_, rfl, _, _, _, rfl, ⟨B1, d1, rfl, -⟩, ⟨B2, d2, rfl, -⟩, ⟨B3, d3, rfl, -⟩, -⟩ := hw
  have m1 := mul_bound ha.w1 ha.w2 ha.h1 ha.h2
  have m2 := mul_bound hb.w1 hb.w2 hb.h1 hb.h2
  refine enter ok85 (by simp) fun W => ?_
  refine vc_box 100 0 rfl rfl rfl rfl fun β => ?_
  refine vc_box 100 1 rfl rfl rfl rfl fun β1 => ?_
  refine vc_box 100 2 rfl rfl rfl rfl fun β2 => ?_
  refine adv_ok 12 ?_
  refine vc_cut (fun env' bs' g' => ∃ n : Int, [3, 7].map env' = [.c (.p 0 0), .c (.v (.int .i64 n))] ∧
    bs' = [⟨some β, 71, [.v (.int .i64 by_), .v (.bool down)], true⟩, ⟨some β1, 127, (phoC a A1 c1 A2 c2 A3 c3).map .v, true⟩, ⟨some β2, 127, (phoC b B1 d1 B2 d2 B3 d3).map .v, true⟩] ∧ g' = g ∧ -1 ≤ n ∧ n ≤ 1 ∧ compareI ⟨by_, down⟩ a b = (if down then -n else n)) ?_ (fun _ _ => trivial) ?_
  · repeat' (first
      | (refine vc_if 100 rfl rfl rfl (fun h => ?_) (fun h => ?_))
      | (refine vc_bools 100 rfl rfl rfl rfl u4 rfl ?_)
      | (refine vc_arith 100 rfl rfl rfl rfl rfl (a.w * a.h) (wr rfl (by omega) (by omega)) ?_)
      | (refine vc_arith 100 rfl rfl rfl rfl rfl (b.w * b.h) (wr rfl (by omega) (by omega)) ?_)
      | (refine vc_call 100 rfl rfl rfl (cmpInt_ct _ _ _) ?_; rintro _ _ - ⟨rfl, rfl⟩)
      | (refine vc_call 100 rfl rfl rfl (cmpStr_ct _ _ _) ?_; rintro _ _ - ⟨rfl, rfl⟩))
    all_goals simp only [beq_iff_eq, beq_eq_false_iff_ne, ne_eq] at *
    all_goals first
      | (refine vc_fin 100 rfl ⟨_, rfl, rfl, rfl, ?_, ?_, ?_⟩
         · first | exact (cmpII_b _ _).1 | exact (cmpSS_b _ _).1 | omega
         · first | exact (cmpII_b _ _).2 | exact (cmpSS_b _ _).2 | omega
         · clear m1 m2 ha hb
           simp_all [compareI])
      | (refine vc_ret0 100 rfl rfl ⟨?_, rfl⟩
         clear m1 m2 ha hb
         simp_all [compareI, tup])
  rintro env' bs' g' ⟨n, he, rfl, rfl, n1, n2, hc⟩
  refine vc_envs [3, 7] _ he ?_
  rw [hc]
  refine vc_if 100 rfl rfl rfl (fun h => ?_) (fun h => ?_)
  · refine vc_neg 100 rfl rfl rfl (-n) (wr (by omega) (by omega) (by omega)) ?_
    refine vc_ret0 100 rfl rfl ⟨?_, rfl⟩
    rw [if_pos h]; rfl
  · refine vc_ret0 100 rfl rfl ⟨?_, rfl⟩
    rw [if_neg (by rw [h]; simp)]; rfl

end Go.Proofs.YtmolncgdehfejaaGreatDoor

/- Contracts: the order of a question. -/
namespace Go.Proofs.YtmolncgdehfejaaGreatDoor
open Go
set_option maxRecDepth 10000

def orderI : List Srt → Pho → Pho → Int
  | [], a, b => cmpII a.id b.id
  | s :: r, a, b => if compareI s a b = 0 then orderI r a b else compareI s a b

theorem order_ct {g : Gh} {β c0 : Nat} {A0 : Option Addr} (l : List Srt) {v w : Value} {a b : Pho} (hq : g β 6 = some (.slice A0 l.length c0)) (hs : Sl g 2 SrtR (.slice A0 l.length c0) l) (hv : PhoV g v a) (hw : PhoV g w b) (ha : PhoN a) (hb : PhoN b) :
    Ct Tryz.prog 84 [v, w, .pointer (some ⟨β, 0, none⟩)] g (fun r g' => r = .int .i64 (orderI l a b) ∧ g' = g) := by
  have hv0 := hv
  have hw0 := hw
  obtain ⟨A, c, e, hlen, hat⟩ := hs
  injection e with e1 e2 e3; subst e1; subst e3
  obtain ⟨_, rfl, _, _, _, rfl, ⟨A1, c1, rfl, -⟩, ⟨A2, c2, rfl, -⟩, ⟨A3, c3, rfl, -⟩, -⟩ := hv
  obtain ⟨_, rfl, _, _, _, rfl, ⟨B1, d1, rfl, -⟩, ⟨B2, d2, rfl, -⟩, ⟨B3, d3, rfl, -⟩, -⟩ := hw
  refine enter ok84 (by simp) fun W => ?_
  refine vc_box 100 0 rfl rfl rfl rfl fun β1 => ?_
  refine vc_box 100 1 rfl rfl rfl rfl fun β2 => ?_
  refine vc_ld1 100 rfl rfl rfl hq ?_
  refine vc_loop 100 rfl [3, 4, 10, 11, 12] (fun m vs bs g' => ∃ k : Nat, k ≤ l.length ∧ m = l.length - k ∧ vs = [.c (.p 0 0), .c (.p 1 0), .c (.v (.slice A0 l.length c0)), .c (.v (.int .i64 (l.length : Int))), .c (.v (.int .i64 (k : Int)))] ∧
    bs = [⟨some β1, 127, [.v (.int .i64 a.id), .v (.string a.file), .v (.int .i64 a.moment), .v (.int .i64 a.zone), .v (.slice A1 a.wher.length c1), .v (.int .i64 a.w), .v (.int .i64 a.h), .v (.int .i64 a.turn), .v (.int .i64 a.stars), .v (.slice A2 a.tags.length c2), .v (.string a.caption), .v (.slice A3 a.people.length c3), .v (.bool a.hidden)], true⟩,
      ⟨some β2, 127, [.v (.int .i64 b.id), .v (.string b.file), .v (.int .i64 b.moment), .v (.int .i64 b.zone), .v (.slice B1 b.wher.length d1), .v (.int .i64 b.w), .v (.int .i64 b.h), .v (.int .i64 b.turn), .v (.int .i64 b.stars), .v (.slice B2 b.tags.length d2), .v (.string b.caption), .v (.slice B3 b.people.length d3), .v (.bool b.hidden)], true⟩] ∧ g' = g ∧ orderI l a b = orderI (l.drop k) a b) l.length ⟨0, Nat.zero_le _, rfl, rfl, rfl, rfl, rfl⟩ ?_
  rintro m vs bs' g' ⟨k, hk, rfl, rfl, rfl, rfl, hI⟩
  refine vc_if 100 rfl rfl rfl (fun h => ?_) (fun h => ?_)
  · have hlt : k < l.length := by have := of_decide_eq_true h; omega
    obtain ⟨β', off, cs, rfl, hcs, hrow, ⟨rfl, hx⟩⟩ := hat k l[k] (nth_get hlt)
    rw [dropk hlt, orderI] at hI
    refine vc_ia 100 rfl rfl rfl rfl (by omega) (by omega) ?_
    refine vc_ldn 100 _ rfl rfl rfl rfl hrow ?_
    refine vc_alloc 100 2 rfl rfl rfl fun β3 => ?_
    refine vc_call 100 rfl rfl rfl (compare_ct l[k] hv0 hw0 ha hb) ?_; rintro _ _ - ⟨rfl, rfl⟩
    refine vc_if 100 rfl rfl rfl (fun h1 => ?_) (fun h1 => ?_)
    · refine vc_ret0 100 rfl rfl ⟨?_, rfl⟩
      rw [hI, if_neg (neqB h1)]; rfl
    · refine vc_arith 100 rfl rfl rfl rfl rfl ((k + 1 : Nat) : Int) (wr (by omega) (by omega) (by omega)) ?_
      refine vc_fin 100 rfl ⟨l.length - (k + 1), [0, 1], by omega, rfl, k + 1, by omega, rfl, rfl, rfl, rfl, ?_⟩
      rw [hI, if_pos (eqB h1)]
  · have hkn : k = l.length := by have := of_decide_eq_false h; omega
    rw [hkn, List.drop_length, orderI] at hI
    rw [hI]
    refine vc_call 100 rfl rfl rfl (cmpInt_ct _ _ _) ?_; rintro _ _ - ⟨rfl, rfl⟩
    exact vc_ret0 100 rfl rfl ⟨rfl, rfl⟩

end Go.Proofs.YtmolncgdehfejaaGreatDoor

/- Functions that hand over one own row: contracts, the way out, the call. No program stands in it. -/
namespace Go.Proofs.YtmolncgdehfejaaGreatDoor
open Go Go.RowKit

/-- The result is a slice of a new block that is the caller's own. -/
def postN (W0 : World) (g0 : Gh) (R : Nat → Nat → Nat → List Value → Gh → Prop) (e : Ending) (W : World) : Prop :=
  ∃ β len cap ty cells g, e = .returned (.slice (some ⟨β, 0, none⟩) len cap) ∧ Fr W0 [] W ∧ Le g0 g ∧ New W0.heap.size g0 g ∧ Ext g W ∧ W0.heap.size ≤ β ∧ HeapAt W β ty cells.toArray ∧ (∀ o, g β o = none) ∧ R len cap ty cells g
def CtN (P : Program) (f : Nat) (vals : List Value) (g : Gh) (R : Nat → Nat → Nat → List Value → Gh → Prop) : Prop :=
  ∀ W, Ext g W → Calls P f vals.toArray W (postN W g R)
def mkXN (P : Program) (N : Nat) (rr : List RR) (W0 : World) (g0 : Gh) (R : Nat → Nat → Nat → List Value → Gh → Prop) : Cx where
  P := P
  N := N
  W0 := W0
  inh := []
  g0 := g0
  Q := fun e a W => ∀ fn : Func, resR P fn.results.toList = some rr → bodyPost P fn (postN W0 g0 R) e a W

theorem enterN {P : Program} {f N : Nat} {rc : RC} {rr : List RR} (hok : FnOk P f N rc rr) {vals : List Value} (hlen : vals.length ≤ N) {g : Gh} {R : Nat → Nat → Nat → List Value → Gh → Prop}
    (h : ∀ W, vcS (mkXN P N rr W g R) ⟨[.code rc], env0 vals, []⟩ g) : CtN P f vals g R := by
  obtain ⟨fn, c, h1, h2, rfl, h4, h5⟩ := hok
  intro W hW
  refine calls_of_wp h1 h2 ?_
  have hsim : Sim (mkXN P fn.ntmps rr W g R) g [] W :=
    ⟨rfl, rfl, rfl, Nat.le_refl _, fun _ _ _ => rfl, hW, fun _ _ _ h => h, fun _ _ _ h => .inl h, fun i b β h => by simp [nth] at h, fun i b β h => by simp [nth] at h, fun i j b b' β h => by simp [nth] at h⟩
  have := h W [.code c] (.code h4 .nil) _ W hsim (agr_start hlen)
  exact wp_mono this (fun e a w hq => (hq : ∀ fn' : Func, resR P fn'.results.toList = some rr → bodyPost P fn' (postN W g R) e a w) fn h5)

theorem vc_retN {P : Program} {N : Nat} {rr : List RR} {W0 : World} {g0 g : Gh} {R : Nat → Nat → Nat → List Value → Gh → Prop} (n i : Nat) {st : St} {ks : List K} {env : Env} {bs : List Bx} {β ty len cap : Nat} {cs : List C1}
    (hst : adv n st = ⟨.code .ret :: ks, env, bs⟩) (hv : retL env bs rr = some [.slice (some ⟨β, 0, none⟩) len cap]) (hb : nth bs i = some ⟨some β, ty, cs, true⟩) (cells : List Value) (hc : concL bs cs = some cells) (h : R len cap ty cells g) :
    vcS (mkXN P N rr W0 g0 R) st g := by
  refine adv_ok n ?_
  rw [hst]
  intro ks' hk a W hs ha
  cases hk with
  | code hc' hr =>
    have hc' := resC_inv hc'
    simp only at hc'
    subst hc'
    have hfr := hs.fresh i _ β hb rfl rfl
    exact wp_ret (wps_ret (fun fn hfn => ⟨ha.defers, _, run_results (ret_run hs ha _ _ hfn _ hv), β, len, cap, ty, cells, g, rfl, ⟨hs.os, hs.tape, hs.output, hs.size, hs.old⟩, hs.le, hs.new, hs.ext, hfr.1.resolve_left (by simp [mkXN]), box_cells (hs.own i _ β hb rfl rfl) hc, hfr.2, h⟩) _)

theorem vc_callN {X : Cx} {g : Gh} (n k : Nat) {st : St} {f : Nat} {args : List Operand} {d : Option Nat} {gd : Option (Nat × Bool)} {l : List RI} {ks : List K} {env : Env} {bs : List Bx} {vals : List Value} {R : Nat → Nat → Nat → List Value → Gh → Prop}
    (hst : adv n st = ⟨.ops (⟨.call f args, d, gd⟩ :: l) :: ks, env, bs⟩) (hg : gdv gd env = some true) (hv : concs bs env args = some vals) (hk : lenIs bs k = true) (hct : CtN X.P f vals g R)
    (h : ∀ β len cap ty cells g', Le g g' → R len cap ty cells g' → vcS X ⟨.ops l :: ks, updO env d (.c (.s k 0 len cap)), bs ++ [⟨some β, ty, cells.map .v, true⟩]⟩ g') : vcS X st g := by
  refine adv_ok n ?_
  rw [hst]
  refine ops_step hg fun o h1 h2 h3 ks' hkk a W hs ha => ?_
  have hk := lenIs_eq _ _ hk
  obtain ⟨c, fn, hop, hcl, hargs, f1, f2, f3⟩ := resO_inv h1
  have hm := concs_map ha args vals hv
  have harr : c.args.map a.eval = vals.toArray := Array.ext' (by rw [Array.toList_map, hargs]; exact hm)
  have hrun : (execOp a.eval o).run X.P W = .ok (.enter f vals.toArray) W := by
    simp [execOp, hop, resolve, hcl, harr, Act.eval, Deferred.ofValue, invoke, run_callFunc f1 f2 f3]
  unfold Oper.wp
  rw [hrun, Oper.upon_enter]
  refine (hct W hs.ext).mono ?_
  rintro e W' ⟨β, len, cap, ty, cells, g', rfl, hf, hl, hn, he, hβ, hheap, hfree, hr⟩
  have hgrow := hs.grow hf hl hn he
  have hlt : ∀ i b γ, nth bs i = some b → b.own = true → b.blk = some γ → γ < W.heap.size := by
    intro i b γ h1 h2 h3
    obtain ⟨cs', e, _⟩ := hs.own i b γ h1 h2 h3
    exact e.lt
  have look : ∀ i b, nth (bs ++ [(⟨some β, ty, cells.map .v, true⟩ : Bx)]) i = some b → nth bs i = some b ∨ (i = bs.length ∧ b = ⟨some β, ty, cells.map .v, true⟩) := by
    intro i c hi
    rw [nth_append] at hi
    split at hi
    · exact .inl hi
    · rename_i hge
      have hlt := nth_lt hi
      simp only [List.length_singleton] at hlt
      have : i = bs.length := by omega
      subst this
      simp only [Nat.sub_self, nth, Option.some.injEq] at hi
      exact .inr ⟨rfl, hi.symm⟩
  have hlater : Later bs (bs ++ [(⟨some β, ty, cells.map .v, true⟩ : Bx)]) := Later.append _ _
  have hs' : Sim X g' (bs ++ [(⟨some β, ty, cells.map .v, true⟩ : Bx)]) W' := by
    refine ⟨hgrow.os, hgrow.tape, hgrow.output, hgrow.size, hgrow.old, hgrow.ext, hgrow.le, hgrow.new, fun i c γ hi ho hγ => ?_, fun i c γ hi ho hγ => ?_, fun i j c c' γ hi hj ho ho' hγ hγ' => ?_⟩
    · rcases look i c hi with hi' | ⟨rfl, rfl⟩
      · exact (hgrow.own i c γ hi' ho hγ).later hlater
      · injection hγ with hγ; subst hγ
        refine ⟨cells.toArray, hheap, by simp, fun o x hx => ?_⟩
        rw [nth_map, nth_eq] at hx
        cases hc' : cells[o]? with
        | none => rw [hc'] at hx; cases hx
        | some u => rw [hc'] at hx; simp only [Option.map_some, Option.some.injEq] at hx; subst hx; exact ⟨u, by simpa using hc', rfl⟩
    · rcases look i c hi with hi' | ⟨rfl, rfl⟩
      · exact hgrow.fresh i c γ hi' ho hγ
      · injection hγ with hγ; subst hγ
        exact ⟨.inr (Nat.le_trans hs.size hβ), hfree⟩
    · rcases look i c hi with hi' | ⟨rfl, rfl⟩ <;> rcases look j c' hj with hj' | ⟨rfl, rfl⟩
      · exact hgrow.apart i j c c' γ hi' hj' ho ho' hγ hγ'
      · injection hγ' with hγ'; subst hγ'
        have := hlt i c _ hi' ho hγ; omega
      · injection hγ with hγ; subst hγ
        have := hlt j c' _ hj' ho' hγ'; omega
      · rfl
  have hx : Is (bs ++ [(⟨some β, ty, cells.map .v, true⟩ : Bx)]) (.c (.s k 0 len cap)) (.slice (some ⟨β, 0, none⟩) len cap) := by
    simp [Is, IsC, C1.at, nth_append, ← hk, nth]
  have := h β len cap ty cells g' hl hr ks' hkk (a.put d (.slice (some ⟨β, 0, none⟩) len cap)) W' hs' (put_agr (ha.later hlater) h3 hx)
  rw [h2]; exact this

end Go.Proofs.YtmolncgdehfejaaGreatDoor

/- Contracts: a clone of photos that is one's own. -/
namespace Go.Proofs.YtmolncgdehfejaaGreatDoor
open Go
set_option maxRecDepth 10000

theorem flat_inv (n : Nat) : ∀ (css : List (List Value)), (∀ cs ∈ css, cs.length = n) → ∀ j u, nth css.flatten j = some u → ∃ q o cs, j = q * n + o ∧ nth css q = some cs ∧ nth cs o = some u
  | [], _, j, u, hj => by simp [nth] at hj
  | c :: r, h, j, u, hj => by
    have hc := h c (by simp)
    rw [List.flatten_cons, nth_append] at hj
    split at hj
    · exact ⟨0, j, c, by simp, rfl, hj⟩
    · rename_i hge
      obtain ⟨q, o, cs, e, a, b⟩ := flat_inv n r (fun cs hc => h cs (by simp [hc])) _ u hj
      exact ⟨q + 1, o, cs, by rw [Nat.succ_mul]; omega, a, b⟩

/-- The cells of photos that lie in a row. -/
theorem rows_exist {g : Gh} {β off : Nat} : ∀ (l : List Pho), (∀ i p, nth l i = some p → ∃ cs, lenIs cs 13 = true ∧ Row g β (off + i * 13) cs ∧ PhoR g cs p) → ∃ css, RowsOf g css l ∧ ∀ q cs, nth css q = some cs → Row g β (off + q * 13) cs := by
  intro l h
  classical
  have hex : ∀ i : Fin l.length, ∃ cs, Row g β (off + i.val * 13) cs ∧ PhoR g cs l[i] := fun i => by
    obtain ⟨cs, _, a, b⟩ := h i.val l[i] (nth_get i.isLt)
    exact ⟨cs, a, b⟩
  refine ⟨List.ofFn fun i => Classical.choose (hex i), ⟨by simp, fun j cs hj => ?_⟩, fun q cs hq => ?_⟩
  · have hlt := nth_lt hj
    rw [List.length_ofFn] at hlt
    rw [nth_eq] at hj
    simp only [List.getElem?_ofFn, hlt, dif_pos, Option.some.injEq] at hj
    subst hj
    exact ⟨l[j], nth_get hlt, (Classical.choose_spec (hex ⟨j, hlt⟩)).2⟩
  · have hlt := nth_lt hq
    rw [List.length_ofFn] at hlt
    rw [nth_eq] at hq
    simp only [List.getElem?_ofFn, hlt, dif_pos, Option.some.injEq] at hq
    subst hq
    exact (Classical.choose_spec (hex ⟨q, hlt⟩)).1

theorem u22 : Tryz.prog.underlying 22 = some (.slice 127) := by kernel_rfl
theorem pho_one {g : Gh} {cs : List Value} {p : Pho} (h : PhoR g cs p) : ∀ u ∈ cs, (C1.v u).one = true := by
  obtain ⟨_, _, _, rfl, ⟨A1, c1, rfl, -⟩, ⟨A2, c2, rfl, -⟩, ⟨A3, c3, rfl, -⟩, -⟩ := h
  intro u hu
  simp only [List.mem_cons, List.not_mem_nil, or_false] at hu
  rcases hu with rfl | rfl | rfl | rfl | rfl | rfl | rfl | rfl | rfl | rfl | rfl | rfl | rfl <;> rfl
theorem allOne_of : ∀ (l : List C1), (∀ x ∈ l, x.one = true) → allOne l = true
  | [], _ => rfl
  | x :: l, h => by simp only [allOne, h x (by simp)]; exact allOne_of l fun y hy => h y (by simp [hy])

theorem concL_vals (bs : List Bx) : ∀ (xs : List Value), concL bs (xs.map C1.v) = some xs
  | [] => rfl
  | x :: r => by simp only [List.map_cons, concL, C1.at, concL_vals bs r]

theorem clonePhos_ct (v : Value) (l : List Pho) (g : Gh) (hv : PhosV g v l) (hne : 0 < l.length) (hl : l.length ≤ 1000) :
    CtN Tryz.prog 120 [v] g (fun len cap ty cells g' => len = l.length ∧ len ≤ cap ∧ cap ≤ 9223372036854775807 ∧ ty = 127 ∧ g' = g ∧ ∃ css spare, cells = css.flatten ++ spare ∧ RowsOf g css l ∧ spare.length = (cap - len) * 13) := by
  obtain ⟨A, c, rfl, hlen, hat⟩ := hv
  obtain ⟨β, off, _, rfl, _⟩ := hat 0 l[0] (nth_get hne)
  obtain ⟨css, hrows, hcss⟩ := rows_exist (g := g) (β := β) (off := off) l fun i p hp => by
    obtain ⟨β', off', cs, e, a, b, d⟩ := hat i p hp
    injection e with e; injection e with e1 e2; subst e1 e2
    exact ⟨cs, a, b, d⟩
  have hflen : css.flatten.length = l.length * 13 := by rw [flat_length 13 css hrows.len, hrows.1]
  have hrow : Row g β off css.flatten := fun j u hj => by
    obtain ⟨q, o, cs, rfl, a, b⟩ := flat_inv 13 css hrows.len j u hj
    have := hcss q cs a o u b
    rwa [Nat.add_assoc] at this
  have hone : allOne (css.flatten.map C1.v) = true := allOne_of _ fun x hx => by
    obtain ⟨u, hu, rfl⟩ := List.mem_map.1 hx
    obtain ⟨cs, hc, hu⟩ := List.mem_flatten.1 hu
    obtain ⟨j, hj⟩ := mem_nth hc
    obtain ⟨p, _, hp⟩ := hrows.2 j cs hj
    exact pho_one hp u hu
  refine enterN ok120 (by simp) fun W => ?_
  refine vc_eqnil 100 rfl rfl rfl u22 ?_
  refine vc_if 100 rfl rfl rfl (fun h => by cases h) (fun _ => ?_)
  refine vc_bslice 100 0 rfl rfl rfl rfl rfl fun β1 => ?_
  refine vc_appendg 100 1 [] [] css.flatten rfl rfl rfl rfl rfl rfl ⟨rfl, Nat.le_refl _, Nat.zero_le _, rfl, fun e => by cases e⟩ rfl hflen hrow hone (by decide) rfl (by omega) (.inl hne) (by simp only [maxLen]; omega) (by omega) fun β2 cap spare hrow2 => ?_
  have h1 := hrow2.2.1
  have h2 := hrow2.2.2.1
  have h3 := hrow2.2.2.2.1
  refine vc_retN 100 1 rfl rfl rfl (css.flatten ++ spare) ?_ ⟨by omega, by omega, by simp only [maxLen] at h2; omega, rfl, rfl, css, spare, rfl, hrows, ?_⟩
  · rw [List.nil_append, ← List.map_append]; exact concL_vals _ _
  · simpa using h3

end Go.Proofs.YtmolncgdehfejaaGreatDoor

/- Contracts: clips of photos. -/
namespace Go.Proofs.YtmolncgdehfejaaGreatDoor
open Go
set_option maxRecDepth 10000

theorem clipPhos_ct (A : Option Addr) (n c : Nat) (g : Gh) (h : n ≤ c) : Ct Tryz.prog 88 [.slice A n c] g (fun r g' => r = .slice (cutA A 13 0 n) n n ∧ g' = g) := by
  refine enter ok88 (by simp) fun W => ?_
  refine vc_slg 100 0 n n rfl rfl rfl rfl ⟨_, rfl⟩ ⟨⟨_, rfl⟩, rfl⟩ (by omega) (by omega) h ?_
  exact vc_ret0 100 rfl rfl ⟨rfl, rfl⟩
theorem cloneNil_ct (c : Nat) (g : Gh) : Ct Tryz.prog 120 [.slice none 0 c] g (fun r g' => r = .slice none 0 0 ∧ g' = g) := by
  refine enter ok120 (by simp) fun W => ?_
  refine vc_eqnil 100 rfl rfl rfl u22 ?_
  refine vc_if 100 rfl rfl rfl (fun _ => ?_) (fun h => by cases h)
  exact vc_ret0 100 rfl rfl ⟨rfl, rfl⟩
theorem cloneEmpty_ct (β off c : Nat) (g : Gh) : Ct Tryz.prog 120 [.slice (some ⟨β, off, none⟩) 0 c] g (fun r _ => ∃ A n, r = .slice A 0 n ∧ n ≤ 9223372036854775807) := by
  refine enter ok120 (by simp) fun W => ?_
  refine vc_eqnil 100 rfl rfl rfl u22 ?_
  refine vc_if 100 rfl rfl rfl (fun h => by cases h) (fun _ => ?_)
  refine vc_bslice 100 0 rfl rfl rfl rfl rfl fun β1 => ?_
  refine vc_appendg 100 1 [] [] [] rfl rfl rfl rfl rfl rfl ⟨rfl, Nat.le_refl _, Nat.zero_le _, rfl, fun e => by cases e⟩ rfl rfl (fun j u h => by simp [nth] at h) rfl (by decide) rfl (by omega) (.inr (by simp)) (by simp only [maxLen]; omega) (by omega) fun β2 cap spare hrow2 => ?_
  have h2 := hrow2.2.2.1
  exact vc_ret0 100 rfl rfl ⟨_, cap, rfl, by simp only [maxLen] at h2; omega⟩

end Go.Proofs.YtmolncgdehfejaaGreatDoor
