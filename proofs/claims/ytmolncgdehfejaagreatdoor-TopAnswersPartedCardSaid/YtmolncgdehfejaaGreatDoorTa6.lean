/- TopAnswersParted answers true at every input, and every argument reads afterwards as it read before: the tied card of the given row. Its conditions are the row's own cells (loops, laid, recurses, unfollowed) and nothing else. -/
import Derived.Test.YtmolncgdehfejaaGreatDoorTa5
import Derived.Test.YtmolncgdehfejaaGreatDoorTa3

/- The contract of the law TopAnswersParted: it answers true. -/
namespace Go.Proofs.YtmolncgdehfejaaGreatDoor
open Go
set_option maxRecDepth 10000

/-- A question's cells. -/
def qC (op : Int) (A1 : Option Addr) (n1 c1 : Nat) (text : ByteArray) (low high : Int) (A2 : Option Addr) (n2 c2 : Nat) (A3 : Option Addr) (n3 c3 : Nat) (f m : Int) : List Value :=
  [.int .i64 op, .slice A1 n1 c1, .string text, .int .i64 low, .int .i64 high, .slice A2 n2 c2, .slice A3 n3 c3, .int .i64 f, .int .i64 m]
def qZ : List Value := [.int .i64 0, .slice none 0 0, .string ⟨#[]⟩, .int .i64 0, .int .i64 0, .slice none 0 0, .slice none 0 0, .int .i64 0, .int .i64 0]

/-- Two copies of a question, in whatever order. -/
def copyInv (g : Gh) (β : Nat) (q : List Value) (c : List Nat) (b : Bool) (g' : Gh) (bs' : List Bx) : Prop :=
  g' = g ∧ match c with
  | [] => bs' = [⟨some β, 29, q.map .v, true⟩]
  | [2] => b = true ∧ ∃ β1, bs' = [⟨some β, 29, q.map .v, true⟩, ⟨some β1, 29, qZ.map .v, true⟩]
  | [3] => b = false ∧ ∃ β1, bs' = [⟨some β, 29, q.map .v, true⟩, ⟨some β1, 29, qZ.map .v, true⟩]
  | [2, 3] => b = true ∧ ∃ β1 β2, bs' = [⟨some β, 29, q.map .v, true⟩, ⟨some β1, 29, qZ.map .v, true⟩, ⟨some β2, 29, qZ.map .v, true⟩]
  | [3, 2] => b = false ∧ ∃ β1 β2, bs' = [⟨some β, 29, q.map .v, true⟩, ⟨some β1, 29, qZ.map .v, true⟩, ⟨some β2, 29, qZ.map .v, true⟩]
  | [2, 3, 4] => b = true ∧ ∃ β1 β2, bs' = [⟨some β, 29, q.map .v, true⟩, ⟨some β1, 29, q.map .v, true⟩, ⟨some β2, 29, qZ.map .v, true⟩]
  | [3, 2, 4] => b = false ∧ ∃ β1 β2, bs' = [⟨some β, 29, q.map .v, true⟩, ⟨some β1, 29, qZ.map .v, true⟩, ⟨some β2, 29, q.map .v, true⟩]
  | [2, 3, 4, 5] => b = true ∧ ∃ β1 β2, bs' = [⟨some β, 29, q.map .v, true⟩, ⟨some β1, 29, q.map .v, true⟩, ⟨some β2, 29, q.map .v, true⟩]
  | [3, 2, 4, 5] => b = false ∧ ∃ β1 β2, bs' = [⟨some β, 29, q.map .v, true⟩, ⟨some β1, 29, q.map .v, true⟩, ⟨some β2, 29, q.map .v, true⟩]
  | _ => False
def copyF (q : List Value) (b : Bool) (i : Nat) : EV := match i with
  | 0 => .g (q.map .v)
  | 1 => .g (q.map .v)
  | 2 => .c (.p (match b with | true => 1 | false => 2) 0)
  | 3 => .c (.p (match b with | true => 2 | false => 1) 0)
  | _ => .c .no

theorem question_change {cond : Cnd} {sorts : List Srt} {f m : Int} (h : checkQuestionI ⟨cond, sorts, f, m⟩ = 0) {f' m' : Int} (h1 : 0 ≤ f') (h2 : f' ≤ 1000) (h3 : 0 ≤ m') (h4 : m' ≤ 1000) : checkQuestionI ⟨cond, sorts, f', m'⟩ = 0 := by
  obtain ⟨q1, q2, q3, -, -⟩ := question_parts h
  simp only at q1 q2 q3
  simp only [checkQuestionI, q1, q2, q3, andThen, if_true]
  rw [if_neg]
  simp only [Bool.or_eq_true, not_or, Bool.not_eq_true]
  exact ⟨outT h1 h2, outT h3 h4⟩
theorem twoLists {g : Gh} {β : Nat} {a b : Value} {l m : List Int} (hrow : Row g β 0 [a, b]) (ha : Sl g 1 IntR a l) (hb : Sl g 1 IntR b m) : Sl g 1 (ListIntR g) (.slice (some ⟨β, 0, none⟩) 2 2) [l, m] := by
  refine ⟨_, 2, rfl, by simp, fun i x hx => ?_⟩
  match i, hx with
  | 0, hx =>
    simp only [nth, Option.some.injEq] at hx; subst hx
    exact ⟨β, 0, [a], rfl, rfl, fun j u hj => by
      cases j with
      | zero => simpa [nth] using (hrow 0 a rfl).trans hj
      | succ j => simp [nth] at hj, a, rfl, ha⟩
  | 1, hx =>
    simp only [nth, Option.some.injEq] at hx; subst hx
    exact ⟨β, 0, [b], rfl, rfl, fun j u hj => by
      cases j with
      | zero => simpa [nth] using (hrow 1 b rfl).trans hj
      | succ j => simp [nth] at hj, b, rfl, hb⟩
  | i + 2, hx => simp [nth] at hx

set_option maxHeartbeats 4000000 in
theorem law3_ct (v w : Value) (l : List Pho) (q : Qst) (cut : Int) (g : Gh) (hv : PhosV g v l) (hw : QstV g w q) (hm : MaxL g) : Ct Tryz.prog 3 [v, w, .int .i64 cut] g (fun r _ => r = .bool true) := by
  have hv0 := hv
  have hw0 := hw
  obtain ⟨A, n, rfl, hnl, _⟩ := hv
  obtain ⟨cells, vs, rfl, hc, hs, hf64, hm64⟩ := hw
  have hc0 : CndV g (.agg cells.toArray) q.cond := ⟨cells, rfl, hc⟩
  obtain ⟨cond, sorts, from_, most⟩ := q
  obtain ⟨op, kids, text, low, high, pl⟩ := cond
  obtain ⟨A1, c1, A2, c2, rfl, _⟩ := hc.parts
  obtain ⟨A3, c3, rfl, -⟩ := id hs
  refine enter ok3 (by simp) fun W => ?_
  refine vc_box 100 0 rfl rfl rfl rfl fun β => ?_
  refine vc_call 100 rfl rfl rfl (condTextTall_ct _) ?_
  rintro _ g1 hle1 rfl
  refine vc_if 100 rfl rfl rfl (fun h => by cases h) (fun _ => ?_)
  refine vc_if 100 rfl rfl rfl (fun h => by simp [tallS] at h) (fun _ => ?_)
  refine vc_call 100 rfl rfl rfl (askAll_ct _ _ l _ _ (hv0.mono hle1) (hw0.mono hle1) (hm.mono hle1)) ?_
  rintro _ g2 hle2 ⟨sw, want, rfl, hsw, hw1, hw2⟩
  obtain ⟨B, k, rfl, hBl, -⟩ := id hsw
  refine vc_if 100 rfl rfl rfl (fun h => ?_) (fun h => ?_)
  · have he := neqB h
    rw [hw1 he] at *
    exact vc_ret0 100 rfl rfl rfl
  have he0 := eqB h
  obtain ⟨l1, hso1, rfl⟩ := hw2 he0
  have hg2 := Le.trans hle1 hle2
  obtain ⟨cl, cq⟩ := andThen_zero he0
  obtain ⟨hl1000, hnl⟩ := check_all cl
  have hinj := rise_inj (check_rise cl)
  obtain ⟨q1, q2, q3, ⟨f1, f2⟩, ⟨m1, m2⟩⟩ := question_parts cq
  simp only at q1 f1 f2 m1 m2 hs hso1 hsw
  obtain ⟨f, rfl⟩ : ∃ f : Nat, from_ = f := ⟨from_.toNat, by omega⟩
  obtain ⟨m, rfl⟩ : ∃ m : Nat, most = m := ⟨most.toNat, by omega⟩
  simp only at hsw hBl
  have hwl : (windowI (f : Int) (m : Int) l1).length ≤ 1000 := by
    have h1 := window_len f m l1
    have h2 : l1.length ≤ l.length := by rw [hso1.1.length_eq]; exact List.length_filter_le _ _
    omega
  have hwm : 0 < m → (windowI (f : Int) (m : Int) l1).length ≤ m := window_most
  refine vc_if 100 rfl rfl rfl (fun h => ?_) (fun h => ?_)
  · refine vc_ret0 100 rfl rfl ?_
    show Value.bool _ = _
    rw [h]
  have hw0' : 0 < (windowI (f : Int) (m : Int) l1).length := by
    rcases Nat.eq_zero_or_pos (windowI (f : Int) (m : Int) l1).length with h0 | h0
    · simp [h0] at h
    · exact h0
  refine vc_call 100 rfl rfl rfl (newIndex_ct _ l _ (hv0.mono hg2)) ?_
  rintro _ g3 hle3 ⟨x, rfl, -, hx⟩
  obtain ⟨βx, sx, rfl, hx0, hxs⟩ := id (hx cl)
  have hix := hx cl
  have hg3 := Le.trans hg2 hle3
  rw [cl]
  refine vc_if 100 rfl rfl rfl (fun h => by cases h) (fun _ => ?_)
  rw [List.length_map]
  have hpk := wPickI_lt (x := cut) (n := ((windowI (f : Int) (m : Int) l1).length : Int)) (by omega)
  refine vc_call 100 rfl rfl rfl (wPick_ct cut ((windowI (f : Int) (m : Int) l1).length : Int) _ (by omega) (by omega)) ?_
  rintro _ g3 - ⟨rfl, rfl⟩
  obtain ⟨kk, hkk, hk1, hk2⟩ : ∃ kk : Nat, 1 + wPickI cut ((windowI (f : Int) (m : Int) l1).length : Int) = ((kk : Nat) : Int) ∧ 1 ≤ kk ∧ kk ≤ (windowI (f : Int) (m : Int) l1).length := ⟨(1 + wPickI cut ((windowI (f : Int) (m : Int) l1).length : Int)).toNat, by omega, by omega, by omega⟩
  refine vc_arith 100 rfl rfl rfl rfl rfl ((kk : Nat) : Int) (wr hkk (by omega) (by omega)) ?_
  refine adv_ok 3 ?_
  refine vc_cut (fun env' bs' g' => ∃ β1 β2, [0, 4, 9, 11, 12, 13, 14].map env' = [.c (.v (.slice A l.length n)), .c (.p 0 0), .c (.v (.slice B (windowI (f : Int) (m : Int) l1).length k)), .c (.v (.pointer (some ⟨βx, 0, none⟩))), .c (.v (.int .i64 ((kk : Nat) : Int))), .c (.p 1 0), .c (.p 2 0)] ∧
    bs' = [⟨some β, 29, (qC op A1 kids.length c1 text low high A2 pl.length c2 A3 sorts.length c3 f m).map .v, true⟩, ⟨some β1, 29, (qC op A1 kids.length c1 text low high A2 pl.length c2 A3 sorts.length c3 f m).map .v, true⟩, ⟨some β2, 29, (qC op A1 kids.length c1 text low high A2 pl.length c2 A3 sorts.length c3 f m).map .v, true⟩] ∧ g' = g3) ?_ (fun _ _ => trivial) ?_
  · refine vc_drawX mix 0 rfl [2, 3, 4, 5] [[], [2], [3], [2, 3], [3, 2], [2, 3, 4], [3, 2, 4], [2, 3, 4, 5], [3, 2, 4, 5]] [[[], [2], [3], [2, 3], [3, 2]], [[], [2], [3], [2, 3], [3, 2], [2, 3, 4], [3, 2, 4]], [[], [3]], [[], [2]], [[2, 3], [3, 2]], [[2, 3, 4], [3, 2, 4]]] (copyInv g3 β (qC op A1 kids.length c1 text low high A2 pl.length c2 A3 sorts.length c3 f m)) (copyF (qC op A1 kids.length c1 text low high A2 pl.length c2 A3 sorts.length c3 f m)) true ⟨rfl, rfl⟩ (by kernel_rfl) ⟨?_, ?_, ?_, ?_, ?_, ?_, trivial⟩ ?_
    · intro c hc x g' bs' _ hI
      simp only [List.mem_cons, List.not_mem_nil, or_false] at hc
      rcases hc with rfl | rfl | rfl | rfl | rfl
      · obtain ⟨rfl, rfl⟩ := hI; exact vc_fin 100 rfl ⟨rfl, rfl, fun d hd => by injection hd with hd; subst hd; rfl⟩
      · obtain ⟨rfl, rfl, β1, rfl⟩ := hI; exact vc_fin 100 rfl ⟨rfl, rfl, fun d hd => by injection hd with hd; subst hd; rfl⟩
      · obtain ⟨rfl, rfl, β1, rfl⟩ := hI; exact vc_fin 100 rfl ⟨rfl, rfl, fun d hd => by injection hd with hd; subst hd; rfl⟩
      · obtain ⟨rfl, rfl, β1, β2, rfl⟩ := hI; exact vc_fin 100 rfl ⟨rfl, rfl, fun d hd => by injection hd with hd; subst hd; rfl⟩
      · obtain ⟨rfl, rfl, β1, β2, rfl⟩ := hI; exact vc_fin 100 rfl ⟨rfl, rfl, fun d hd => by injection hd with hd; subst hd; rfl⟩
    · intro c hc x g' bs' _ hI
      simp only [List.mem_cons, List.not_mem_nil, or_false] at hc
      rcases hc with rfl | rfl | rfl | rfl | rfl | rfl | rfl
      · obtain ⟨rfl, rfl⟩ := hI; exact vc_fin 100 rfl ⟨rfl, rfl, fun d hd => by injection hd with hd; subst hd; rfl⟩
      · obtain ⟨rfl, rfl, β1, rfl⟩ := hI; exact vc_fin 100 rfl ⟨rfl, rfl, fun d hd => by injection hd with hd; subst hd; rfl⟩
      · obtain ⟨rfl, rfl, β1, rfl⟩ := hI; exact vc_fin 100 rfl ⟨rfl, rfl, fun d hd => by injection hd with hd; subst hd; rfl⟩
      · obtain ⟨rfl, rfl, β1, β2, rfl⟩ := hI; exact vc_fin 100 rfl ⟨rfl, rfl, fun d hd => by injection hd with hd; subst hd; rfl⟩
      · obtain ⟨rfl, rfl, β1, β2, rfl⟩ := hI; exact vc_fin 100 rfl ⟨rfl, rfl, fun d hd => by injection hd with hd; subst hd; rfl⟩
      · obtain ⟨rfl, rfl, β1, β2, rfl⟩ := hI; exact vc_fin 100 rfl ⟨rfl, rfl, fun d hd => by injection hd with hd; subst hd; rfl⟩
      · obtain ⟨rfl, rfl, β1, β2, rfl⟩ := hI; exact vc_fin 100 rfl ⟨rfl, rfl, fun d hd => by injection hd with hd; subst hd; rfl⟩
    · intro c hc x g' bs' _ hI
      simp only [List.mem_cons, List.not_mem_nil, or_false] at hc
      rcases hc with rfl | rfl
      · obtain ⟨rfl, rfl⟩ := hI; exact vc_alloc 100 1 rfl rfl rfl fun β0 => vc_fin 100 rfl ⟨Le.refl _, Later.append _ _, true, ⟨rfl, rfl, β0, rfl⟩, fun d hd => by injection hd with hd; subst hd; rfl, fun j hj => match j, hj with | 0, _ => rfl | 1, _ => rfl | 2, hj => absurd hj (by decide) | 3, hj => absurd hj (by decide) | _ + 4, _ => rfl⟩
      · obtain ⟨rfl, rfl, β1, rfl⟩ := hI; exact vc_alloc 100 2 rfl rfl rfl fun β0 => vc_fin 100 rfl ⟨Le.refl _, Later.append _ _, false, ⟨rfl, rfl, β1, β0, rfl⟩, fun d hd => by injection hd with hd; subst hd; rfl, fun j hj => match j, hj with | 0, _ => rfl | 1, _ => rfl | 2, hj => absurd hj (by decide) | 3, _ => rfl | _ + 4, _ => rfl⟩
    · intro c hc x g' bs' _ hI
      simp only [List.mem_cons, List.not_mem_nil, or_false] at hc
      rcases hc with rfl | rfl
      · obtain ⟨rfl, rfl⟩ := hI; exact vc_alloc 100 1 rfl rfl rfl fun β0 => vc_fin 100 rfl ⟨Le.refl _, Later.append _ _, false, ⟨rfl, rfl, β0, rfl⟩, fun d hd => by injection hd with hd; subst hd; rfl, fun j hj => match j, hj with | 0, _ => rfl | 1, _ => rfl | 2, hj => absurd hj (by decide) | 3, hj => absurd hj (by decide) | _ + 4, _ => rfl⟩
      · obtain ⟨rfl, rfl, β1, rfl⟩ := hI; exact vc_alloc 100 2 rfl rfl rfl fun β0 => vc_fin 100 rfl ⟨Le.refl _, Later.append _ _, true, ⟨rfl, rfl, β1, β0, rfl⟩, fun d hd => by injection hd with hd; subst hd; rfl, fun j hj => match j, hj with | 0, _ => rfl | 1, _ => rfl | 2, _ => rfl | 3, hj => absurd hj (by decide) | _ + 4, _ => rfl⟩
    · intro c hc x g' bs' _ hI
      simp only [List.mem_cons, List.not_mem_nil, or_false] at hc
      rcases hc with rfl | rfl
      · obtain ⟨rfl, rfl, β1, β2, rfl⟩ := hI; exact vc_fin 100 rfl ⟨Le.refl _, later_sameBlk ⟨rfl, rfl, rfl, trivial⟩, true, ⟨rfl, rfl, β1, β2, rfl⟩, (fun d hd => by cases hd), fun _ _ => rfl⟩
      · obtain ⟨rfl, rfl, β1, β2, rfl⟩ := hI; exact vc_fin 100 rfl ⟨Le.refl _, later_sameBlk ⟨rfl, rfl, rfl, trivial⟩, false, ⟨rfl, rfl, β1, β2, rfl⟩, (fun d hd => by cases hd), fun _ _ => rfl⟩
    · intro c hc x g' bs' _ hI
      simp only [List.mem_cons, List.not_mem_nil, or_false] at hc
      rcases hc with rfl | rfl
      · obtain ⟨rfl, rfl, β1, β2, rfl⟩ := hI; exact vc_fin 100 rfl ⟨Le.refl _, later_sameBlk ⟨rfl, rfl, rfl, trivial⟩, true, ⟨rfl, rfl, β1, β2, rfl⟩, (fun d hd => by cases hd), fun _ _ => rfl⟩
      · obtain ⟨rfl, rfl, β1, β2, rfl⟩ := hI; exact vc_fin 100 rfl ⟨Le.refl _, later_sameBlk ⟨rfl, rfl, rfl, trivial⟩, false, ⟨rfl, rfl, β1, β2, rfl⟩, (fun d hd => by cases hd), fun _ _ => rfl⟩
    · intro c hc hall x g' bs' _ hI
      simp only [List.mem_cons, List.not_mem_nil, or_false] at hc
      rcases hc with rfl | rfl | rfl | rfl | rfl | rfl | rfl | rfl | rfl
      · exact absurd hall (by decide)
      · exact absurd hall (by decide)
      · exact absurd hall (by decide)
      · exact absurd hall (by decide)
      · exact absurd hall (by decide)
      · exact absurd hall (by decide)
      · exact absurd hall (by decide)
      · obtain ⟨rfl, rfl, β1, β2, rfl⟩ := hI; exact vc_fin 100 rfl ⟨β1, β2, rfl, rfl, rfl⟩
      · obtain ⟨rfl, rfl, β1, β2, rfl⟩ := hI; exact vc_rebase [0, 2, 1] [0, 4, 9, 11, 12, 13, 14] rfl (vc_fin 100 rfl ⟨β2, β1, rfl, rfl, rfl⟩)
  rintro env' bs' g3 ⟨β1, β2, henv, rfl, rfl⟩
  refine vc_envs [0, 4, 9, 11, 12, 13, 14] _ henv ?_
  refine vc_arith 100 rfl rfl rfl rfl rfl ((f + kk : Nat) : Int) (wr (by omega) (by omega) (by omega)) ?_
  refine adv_ok 4 ?_
  refine vc_cut (fun env' bs' g' => [0, 4, 9, 11, 13, 14].map env' = [.c (.v (.slice A l.length n)), .c (.p 0 0), .c (.v (.slice B (windowI (f : Int) (m : Int) l1).length k)), .c (.v (.pointer (some ⟨βx, 0, none⟩))), .c (.p 1 0), .c (.p 2 0)] ∧
    bs' = [⟨some β, 29, (qC op A1 kids.length c1 text low high A2 pl.length c2 A3 sorts.length c3 f m).map .v, true⟩, ⟨some β1, 29, (qC op A1 kids.length c1 text low high A2 pl.length c2 A3 sorts.length c3 f ((kk : Nat) : Int)).map .v, true⟩, ⟨some β2, 29, (qC op A1 kids.length c1 text low high A2 pl.length c2 A3 sorts.length c3 ((f + kk : Nat) : Int) ((m - kk : Nat) : Int)).map .v, true⟩] ∧ g' = g3) ?_ (fun _ _ => trivial) ?_
  · refine vc_if 100 rfl rfl rfl (fun h => ?_) (fun h => ?_)
    · have hmp : 0 < m := by have := of_decide_eq_true h; omega
      have := hwm hmp
      refine vc_arith 100 rfl rfl rfl rfl rfl ((m - kk : Nat) : Int) (wr (by omega) (by omega) (by omega)) ?_
      exact vc_fin 100 rfl ⟨rfl, rfl, rfl⟩
    · have hmz : m = 0 := by have := of_decide_eq_false h; omega
      subst hmz
      rw [Nat.zero_sub]
      exact vc_fin 100 rfl ⟨rfl, rfl, rfl⟩
  rintro env' bs' g3 ⟨henv, rfl, rfl⟩
  refine vc_envs [0, 4, 9, 11, 13, 14] _ henv ?_
  have hQ : ∀ (f' m' : Nat) (g' : Gh), Le g g' → f' ≤ 2000 → m' ≤ 1000 → QstV g' (.agg (qC op A1 kids.length c1 text low high A2 pl.length c2 A3 sorts.length c3 ((f' : Nat) : Int) ((m' : Nat) : Int)).toArray) ⟨.mk op kids text low high pl, sorts, f', m'⟩ := fun f' m' g' hle hf hm => ⟨_, _, rfl, CndR.mono hle _ _ hc, hs.mono hle fun _ _ h => h, by unfold I64; simp only; omega, by unfold I64; simp only; omega⟩
  have cqa : checkQuestionI ⟨.mk op kids text low high pl, sorts, f, ((kk : Nat) : Int)⟩ = 0 := question_change cq (by omega) (by omega) (by omega) (by omega)
  refine vc_call 100 rfl rfl rfl (askAll_ct _ _ l ⟨.mk op kids text low high pl, sorts, f, ((kk : Nat) : Int)⟩ _ (hv0.mono hg3) (hQ f kk _ hg3 (by omega) (by omega)) (hm.mono hg3)) ?_
  rintro _ g4 hle4 ⟨sa, first, rfl, hsa, -, ha2⟩
  have hqa0 : askE l ⟨.mk op kids text low high pl, sorts, f, ((kk : Nat) : Int)⟩ = 0 := by rw [askE, cl, cqa]; rfl
  rw [hqa0]
  obtain ⟨l2, hso2, rfl⟩ := ha2 hqa0
  obtain rfl : l2 = l1 := SortedOf.unique (filter_inj hinj) hso2 hso1
  simp only at hsa
  have hg4 := Le.trans hg3 hle4
  obtain ⟨C, e, rfl, -⟩ := id hsa
  refine vc_if 100 rfl rfl rfl (fun h => by cases h) (fun _ => ?_)
  refine adv_ok 7 ?_
  have hwin : m = 0 ∨ kk < m → (windowI (f : Int) (kk : Int) l2).map (·.id) ++ (windowI ((f + kk : Nat) : Int) ((m - kk : Nat) : Int) l2).map (·.id) = (windowI (f : Int) (m : Int) l2).map (fun p : Pho => p.id) := fun h => by
    rw [← List.map_append, window_first (by omega) h]
  refine vc_cut (fun env' bs' g' => ∃ sr rest, [0, 4, 9, 15, 16].map env' = [.c (.v (.slice A l.length n)), .c (.p 0 0), .c (.v (.slice B (windowI (f : Int) (m : Int) l2).length k)), .c (.v (.slice C ((windowI (f : Int) (kk : Int) l2).map (fun p : Pho => p.id)).length e)), .c (.v sr)] ∧
    bs' = [⟨some β, 29, (qC op A1 kids.length c1 text low high A2 pl.length c2 A3 sorts.length c3 f m).map .v, true⟩, ⟨some β1, 29, (qC op A1 kids.length c1 text low high A2 pl.length c2 A3 sorts.length c3 f ((kk : Nat) : Int)).map .v, true⟩, ⟨some β2, 29, (qC op A1 kids.length c1 text low high A2 pl.length c2 A3 sorts.length c3 ((f + kk : Nat) : Int) ((m - kk : Nat) : Int)).map .v, true⟩] ∧
    Le g4 g' ∧ Sl g' 1 IntR sr rest ∧ (windowI (f : Int) (kk : Int) l2).map (·.id) ++ rest = (windowI (f : Int) (m : Int) l2).map (fun p : Pho => p.id)) ?_ (fun _ _ => trivial) ?_
  · have asks : (m = 0 ∨ kk < m) → checkQuestionI ⟨.mk op kids text low high pl, sorts, ((f + kk : Nat) : Int), ((m - kk : Nat) : Int)⟩ = 0 → ∀ ids l3, SortedOf sorts (l.filter (holdsB (.mk op kids text low high pl))) l3 → ids = (windowI ((f + kk : Nat) : Int) ((m - kk : Nat) : Int) l3).map (fun p : Pho => p.id) → (windowI (f : Int) (kk : Int) l2).map (·.id) ++ ids = (windowI (f : Int) (m : Int) l2).map (fun p : Pho => p.id) := by
      rintro h1 - ids l3 h2 rfl
      obtain rfl : l3 = l2 := SortedOf.unique (filter_inj hinj) h2 hso1
      exact hwin h1
    refine vc_if 100 rfl rfl rfl (fun h => ?_) (fun h => ?_)
    · have hmz : m = 0 := by have := eq_of_beq h; omega
      refine vc_call 100 rfl rfl rfl (checkQuestion_ct _ ⟨.mk op kids text low high pl, sorts, ((f + kk : Nat) : Int), ((m - kk : Nat) : Int)⟩ _ (hQ (f + kk) (m - kk) _ hg4 (by omega) (by omega))) ?_
      rintro _ g5 hle5 rfl
      refine vc_if 100 rfl rfl rfl (fun h => ?_) (fun h => ?_)
      · exact vc_ret0 100 rfl rfl rfl
      have cqb := eqB h
      have hg5 := Le.trans hg4 hle5
      refine vc_call 100 rfl rfl rfl (indexAsk_ct _ _ l ⟨.mk op kids text low high pl, sorts, ((f + kk : Nat) : Int), ((m - kk : Nat) : Int)⟩ _ (hix.mono (Le.trans hle4 hle5)) cl (hQ (f + kk) (m - kk) _ hg5 (by omega) (by omega)) (hm.mono hg5)) ?_
      rintro _ g6 hle6 ⟨sr, rest, rfl, hsr, -, hb2⟩
      obtain ⟨l3, hso3, hrest⟩ := hb2 cqb
      obtain ⟨D, d, rfl, -⟩ := id hsr
      rw [cqb]
      refine vc_if 100 rfl rfl rfl (fun h => by cases h) (fun _ => ?_)
      exact vc_fin 100 rfl ⟨_, rest, rfl, rfl, Le.trans hle5 hle6, hsr, asks (.inl hmz) cqb rest l3 hso3 hrest⟩
    have hmz : 0 < m := by
      rcases Nat.eq_zero_or_pos m with h0 | h0
      · simp [h0] at h
      · exact h0
    refine vc_if 100 rfl rfl rfl (fun h => ?_) (fun h => ?_)
    · have hkm : kk < m := by have := of_decide_eq_true h; omega
      refine vc_call 100 rfl rfl rfl (checkQuestion_ct _ ⟨.mk op kids text low high pl, sorts, ((f + kk : Nat) : Int), ((m - kk : Nat) : Int)⟩ _ (hQ (f + kk) (m - kk) _ hg4 (by omega) (by omega))) ?_
      rintro _ g5 hle5 rfl
      refine vc_if 100 rfl rfl rfl (fun h => ?_) (fun h => ?_)
      · exact vc_ret0 100 rfl rfl rfl
      have cqb := eqB h
      have hg5 := Le.trans hg4 hle5
      refine vc_call 100 rfl rfl rfl (indexAsk_ct _ _ l ⟨.mk op kids text low high pl, sorts, ((f + kk : Nat) : Int), ((m - kk : Nat) : Int)⟩ _ (hix.mono (Le.trans hle4 hle5)) cl (hQ (f + kk) (m - kk) _ hg5 (by omega) (by omega)) (hm.mono hg5)) ?_
      rintro _ g6 hle6 ⟨sr, rest, rfl, hsr, -, hb2⟩
      obtain ⟨l3, hso3, hrest⟩ := hb2 cqb
      obtain ⟨D, d, rfl, -⟩ := id hsr
      rw [cqb]
      refine vc_if 100 rfl rfl rfl (fun h => by cases h) (fun _ => ?_)
      exact vc_fin 100 rfl ⟨_, rest, rfl, rfl, Le.trans hle5 hle6, hsr, asks (.inr hkm) cqb rest l3 hso3 hrest⟩
    · have hkm : m ≤ kk := by have := of_decide_eq_false h; omega
      have := hwm hmz
      have hkm2 : kk = m := by omega
      refine vc_fin 100 rfl ⟨_, [], rfl, rfl, Le.refl _, nilInts _, ?_⟩
      rw [hkm2, List.append_nil]
  rintro env' bs' g5 ⟨sr, rest, henv, rfl, hle5, hsr, hrest⟩
  refine vc_envs [0, 4, 9, 15, 16] _ henv ?_
  have hg5 := Le.trans hg4 hle5
  obtain ⟨D, d, rfl, -⟩ := id hsr
  refine vc_bslice 100 3 rfl rfl rfl rfl rfl fun β3 => ?_
  refine vc_pub 0 3 rfl rfl rfl _ rfl fun g6 hle6 hrow6 => ?_
  have hg6 := Le.trans hg5 hle6
  have hfl : ([(windowI (f : Int) (kk : Int) l2).map (fun p : Pho => p.id), rest].flatten) = (windowI (f : Int) (m : Int) l2).map (fun p : Pho => p.id) := by
    rw [← hrest]; simp
  refine vc_call 100 rfl rfl rfl (concatInt_ct _ [(windowI (f : Int) (kk : Int) l2).map (fun p : Pho => p.id), rest] _ (twoLists hrow6 ((hsa.mono hle5 fun _ _ h => h).mono hle6 fun _ _ h => h) (hsr.mono hle6 fun _ _ h => h)) (by rw [hfl, List.length_map]; omega) (by simp)) ?_
  rintro rc g7 hle7 hrc
  rw [hfl] at hrc
  have hg7 := Le.trans hg6 hle7
  obtain ⟨E, e2, rfl, -⟩ := id hrc
  have hsw7 : Sl g7 1 IntR (.slice B (windowI (f : Int) (m : Int) l2).length k) ((windowI (f : Int) (m : Int) l2).map (fun p : Pho => p.id)) := by
    have := hsw.mono (Le.trans hle3 (Le.trans hle4 (Le.trans hle5 (Le.trans hle6 hle7)))) (R' := IntR) fun _ _ h => h
    rwa [List.length_map] at this
  refine vc_call 100 rfl rfl rfl (equal_ct _ _ _ _ _ hrc hsw7) ?_
  rintro _ g7 - ⟨rfl, rfl⟩
  refine vc_if 100 rfl rfl rfl (fun h => by simp at h) (fun _ => ?_)
  have e0 : findE l (.mk op kids text low high pl) = 0 := by rw [findE, cl, q1]; rfl
  refine vc_call 100 rfl rfl rfl (find_ct _ _ l (.mk op kids text low high pl) _ (hv0.mono hg7) ((CndV.mono ⟨_, rfl, hc⟩ hg7)) (hm.mono hg7)) ?_
  rintro _ g8 hle8 ⟨sall, rfl, hall⟩
  rw [e0]
  obtain ⟨F1, k1, rfl, -⟩ := id hall
  have hg8 := Le.trans hg7 hle8
  refine vc_alloc 100 4 rfl rfl rfl fun β4 => ?_
  refine vc_pub 2 4 rfl rfl rfl _ rfl fun g9 hle9 hrow9 => ?_
  refine vc_val 0 17 rfl rfl rfl ?_
  have hg9 := Le.trans hg8 hle9
  refine vc_call 100 rfl rfl rfl (wCond_ct (.mk op kids text low high pl) _ _ (CndV.mono ⟨_, rfl, hc⟩ hg9) (cndW_small _ (cndW q1))) ?_
  rintro _ g10 hle10 ⟨ds, rfl, hds⟩
  have hds0 : CndV g10 (.agg ds.toArray) (.mk op kids text low high pl) := ⟨_, rfl, hds⟩
  obtain ⟨B1, d1, B2, d2, rfl, _⟩ := hds.parts
  refine vc_call 100 rfl rfl rfl (wNo_ct _ _ _ hds0) ?_
  rintro _ g11 hle11 ⟨es, rfl, hes⟩
  have hes0 : CndV g11 (.agg es.toArray) (ofC' 3 [.mk op kids text low high pl]) := ⟨_, rfl, hes⟩
  obtain ⟨B3, d3, B4, d4, rfl, _⟩ := CndR.parts hes
  have hg11 := Le.trans hg9 (Le.trans hle10 hle11)
  refine vc_call 100 rfl rfl rfl (find_ct _ _ l (ofC' 3 [.mk op kids text low high pl]) _ (hv0.mono hg11) hes0 (hm.mono hg11)) ?_
  rintro _ g12 hle12 ⟨snone, rfl, hnone⟩
  obtain ⟨F2, k2, rfl, -⟩ := id hnone
  refine vc_if 100 rfl rfl rfl (fun h => ?_) (fun h => ?_)
  · exact vc_ret0 100 rfl rfl rfl
  have hno : findE l (ofC' 3 [.mk op kids text low high pl]) = 0 := by
    have h4 : findE l (ofC' 3 [.mk op kids text low high pl]) ≠ 4 := by simpa using h
    have hE : findE l (ofC' 3 [.mk op kids text low high pl]) = checkCondI (ofC' 3 [.mk op kids text low high pl]) := by rw [findE, cl]; rfl
    rw [hE] at h4 ⊢
    exact (check_not q1).resolve_right h4
  rw [hno]
  have eall : findL l (.mk op kids text low high pl) = (l.filter (holdsB (.mk op kids text low high pl))).map (·.id) := by rw [findL, if_pos e0]
  have enone : findL l (ofC' 3 [.mk op kids text low high pl]) = (l.filter fun p => !holdsB (.mk op kids text low high pl) p).map (·.id) := by
    rw [findL, if_pos hno]
    congr 2
    funext p; exact holds_not _ p
  have hsum : (findL l (.mk op kids text low high pl)).length + (findL l (ofC' 3 [.mk op kids text low high pl])).length = l.length := by
    rw [eall, enone, List.length_map, List.length_map]; exact filter_len _ l
  have hany : (findL l (ofC' 3 [.mk op kids text low high pl])).any (hasI (findL l (.mk op kids text low high pl))) = false := by
    rw [List.any_eq_false]
    intro x hx hh
    rw [enone] at hx
    obtain ⟨p, hp, rfl⟩ := List.mem_map.1 hx
    obtain ⟨hp1, hp2⟩ := List.mem_filter.1 hp
    rw [eall, hasI, List.any_eq_true] at hh
    obtain ⟨y, hy, he⟩ := hh
    obtain ⟨q, hq, rfl⟩ := List.mem_map.1 hy
    obtain ⟨hq1, hq2⟩ := List.mem_filter.1 hq
    have := hinj p hp1 q hq1 (eq_of_beq he)
    subst this
    rw [hq2] at hp2; cases hp2
  have hrow12 := (hrow9.mono (Le.trans hle10 (Le.trans hle11 hle12))).at0
  have hall12 := ((hall.mono hle9 fun _ _ h => h).mono (Le.trans hle10 (Le.trans hle11 hle12)) fun _ _ h => h)
  generalize findL l (.mk op kids text low high pl) = all at *
  generalize findL l (ofC' 3 [.mk op kids text low high pl]) = non at *
  refine vc_if 100 rfl rfl rfl (fun _ => ?_) (fun h => by cases h)
  refine vc_if 100 rfl rfl rfl (fun _ => ?_) (fun h => by cases h)
  refine vc_ld1 100 rfl rfl rfl hrow12 ?_
  refine vc_arith 100 rfl rfl rfl rfl rfl ((all.length + non.length : Nat) : Int) (wr (by omega) (by omega) (by omega)) ?_
  rw [hsum]
  refine vc_if 100 rfl rfl rfl (fun _ => ?_) (fun h => by simp at h)
  refine vc_call 100 rfl rfl rfl (anyContains_ct _ _ non all β4 _ hrow12 hall12 hnone) ?_
  rintro _ _ - ⟨rfl, rfl⟩
  refine vc_ret0 100 rfl rfl ?_
  rw [hany]; rfl

end Go.Proofs.YtmolncgdehfejaaGreatDoor

/- The row and the card of TopAnswersParted. -/
namespace Go.Proofs.YtmolncgdehfejaaGreatDoor
open Go Go.RowKit Go.ChangeShapes Go.WideShapes Go.ChangeAt
set_option maxRecDepth 100000

theorem below_of_fr {W W' : World} (h : Fr W [] W') : Below W.heap.size W W' := ⟨h.os, h.tape, h.output, h.size, fun k hk => h.old k hk (by simp)⟩

theorem calls_of_ct {k : Nat} {vals : List Value} {g : Gh} {W : World} (h : Ct Tryz.prog k vals g (fun r _ => r = .bool true)) (hg : Ext g W) :
    Calls Tryz.prog k vals.toArray W fun e W' => e = .returned (.bool true) ∧ Below W.heap.size W W' :=
  (h W hg).mono fun e W' ⟨v, g', he, hf, _, _, _, hr⟩ => by subst hr; exact ⟨he, below_of_fr hf⟩

theorem walk3 : WalkOf 3 [22, 29, 3] := by
  intro W args g hg hm H enc base ds ps hval hA e
  subst e
  obtain ⟨v0, v1, v2, d0, d1, d2, p0, p1, p2, rfl, rfl, rfl, h0, h1, h2⟩ := trodAll_three hA
  obtain ⟨_, h0⟩ := h0
  obtain ⟨_, h1⟩ := h1
  obtain ⟨_, h2⟩ := h2
  obtain ⟨l, hl⟩ := phos_read (hval 0 22 v0 rfl rfl) h0
  obtain ⟨q, hq⟩ := qst_read (hval 1 29 v1 rfl rfl) h1
  obtain ⟨n, rfl⟩ := okWide_int ty3 (hval 2 3 v2 rfl rfl)
  exact calls_of_ct (law3_ct v0 v1 l q n _ hl hq hm) hg

theorem spec3 (H : Type) (ds : List (DataW H)) (h : ds.length = Tryz.f3.params.size) : (Rows.topAnswersPartedSpec.fn H ds).results = [.lit (.bool true)] ∧ (Rows.topAnswersPartedSpec.fn H ds).args = ds ∧ (Rows.topAnswersPartedSpec.fn H ds).vars = [] := by
  rw [psize3] at h
  match ds, h with
  | [a, b, c], _ => exact ⟨rfl, rfl, rfl⟩

/-- The cells of a question that asks for nothing. -/
def noQuestion : Value := .agg #[.int .i64 0, .slice none 0 0, .string ⟨#[]⟩, .int .i64 0, .int .i64 0, .slice none 0 0, .slice none 0 0, .int .i64 0, .int .i64 0]

theorem lifted3 (os : Os) (started : os.Started) (H : Type) (enc : TypeId × Value → H) :
    ReturnsInHanded {} Tryz.checked os 3 .any (fun w args => (Rows.topAnswersPartedSpec.pre enc Tryz.prog Tryz.f3 [] false w args ∧ laidMetH Tryz.prog Rows.topAnswersPartedRow.laid w) ∧ sizedMet enc Tryz.prog Tryz.f3 (OpenSpec.ofChange Rows.topAnswersPartedSpec) false w args)
      (Rows.topAnswersPartedSpec.post enc Tryz.prog Tryz.f3 false true false false) :=
  lifted_of os started jb3 Tryz.func3 results3 rfl (spec3 H) types3 (params3 ▸ walk3)
    (ChangeSpec.witness_shaped (enc := enc) (C := Tryz.checked) (os := os) (X := fun w _ => laidMetH Tryz.prog Rows.topAnswersPartedRow.laid w) false (World.laidAll Tryz.prog os Rows.topAnswersPartedRow.laid) #[.slice none 0 0, noQuestion, .int .i64 0] 8 (World.laidAll_os _ _ _)
      (World.shaped_of_ZipB (by kernel_rfl) (by kernel_rfl)) (by kernel_rfl) (by kernel_rfl) (by kernel_rfl)
      (by rw [MakeChecks.laidMetH_plain _ _ _ (by kernel_rfl)]; exact laidMet_laidAll _ (by kernel_rfl) (by kernel_rfl)))

theorem row3 : Rows.TopAnswersPartedSaid :=
  OpenClaim.holds_of_wide 3 Tryz.f3 rfl rfl rfl rfl rfl rfl rfl ⟨rfl, rfl, rfl, rfl, rfl⟩ rfl rfl rfl rfl rfl jc3 Tryz.func3 joined3
    (of_decide_eq_true (by as_aux_lemma => kernel_rfl)) (by unfold Func.isWrapper; first | (rw [if_pos (by decide +kernel)]; as_aux_lemma => kernel_rfl) | (rw [if_neg (by decide +kernel)]; exact ⟨rfl, rfl⟩))
    (fun os started H enc _ => lifted3 os started H enc)

theorem card3 : Rows.TopAnswersPartedCardSaid :=
  Claim7.holds_tied_plain_at .later [] [.data, .data, .data, .data, .sentinel, .sentinel, .pinned] true (true, "178fb850cf2c0d96675949065ca27c8cb0c60894bd18123ed2e3c4b96f1059bc") true row3 (fun _ h => by cases h) jd3 (fun _ h => by cases h) topAnswersParted_row_tie rfl ⟨rfl, rfl⟩ jf_main rfl
    (fun f fn hf hfn => by
      obtain rfl : f = 3 := Option.some.inj (jc3.symm.trans hf) |>.symm
      obtain rfl : fn = Tryz.f3 := (Option.some.inj (Tryz.func3.symm.trans hfn)).symm
      exact ⟨jf_looks, fun j t ht => by
        have hm : t ∈ [22, 29, 3] := by rw [← params3]; simpa using Array.mem_of_getElem? ht
        exact (show Tryz.prog.wantsStandIn t = false by simpa using List.all_eq_true.1 stands3 t hm)⟩)
    jg3
#print axioms card3
end Go.Proofs.YtmolncgdehfejaaGreatDoor
