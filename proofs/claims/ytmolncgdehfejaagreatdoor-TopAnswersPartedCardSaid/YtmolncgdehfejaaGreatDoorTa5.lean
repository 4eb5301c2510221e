/- A part of the proof: the walk's own logic and the contracts of the functions that the claim reaches. It has no conditions beyond those that each theorem states. -/
import Derived.Test.YtmolncgdehfejaaGreatDoorTa4
import Derived.Lib.AppendZeros
import Derived.Test.YtmolncgdehfejaaGreatDoorProg
import Derived.Test.YtmolncgdehfejaaGreatDoorTa1

/- Regions whose order is open and at whose end own blocks are written. No program stands in it. -/
namespace Go.Proofs.YtmolncgdehfejaaGreatDoor
open Go Go.RowKit

def envF (F : Nat → EV) : Nat → List RI → Env → Env
  | _, [], env => env
  | i, r :: l, env => envF F (i + 1) l (updO env r.dst (F i))
theorem envF_out (F : Nat → EV) : ∀ (l : List RI) (k : Nat) (e : Env) (t : Nat), t ∉ dsts l → envF F k l e t = e t
  | [], _, _, _, _ => rfl
  | r :: l, k, e, t, h => by
    simp only [envF]
    have h2 : t ∉ dsts l := fun hm => h (by simp only [dsts]; split <;> simp [hm])
    rw [envF_out F l _ _ t h2, updO_other]
    intro hd
    exact h (by simp only [dsts, hd]; simp)
theorem envF_go (F : Nat → EV) : ∀ (l : List RI) (k : Nat) (e : Env), distinct (dsts l) = true → ∀ i r d, nth l i = some r → r.dst = some d → envF F k l e d = F (k + i)
  | [], _, _, _, i, r, d, h, _ => by simp [nth] at h
  | x :: l, k, e, hd, 0, r, d, h, hr => by
    simp only [nth, Option.some.injEq] at h
    subst h
    simp only [envF]
    rw [envF_out, hr]
    · simp [updO, upd_same]
    · simp only [dsts, hr] at hd
      intro hm
      obtain ⟨j, hj⟩ : ∃ j, nth (dsts l) j = some d := by
        obtain ⟨j, hj, e⟩ := List.getElem_of_mem hm
        exact ⟨j, by rw [nth_eq]; simp [hj, e]⟩
      have := distinct_inj (d :: dsts l) hd 0 (j + 1) d rfl (by simpa [nth] using hj)
      omega
  | x :: l, k, e, hd, i + 1, r, d, h, hr => by
    simp only [envF]
    have hd' : distinct (dsts l) = true := by
      simp only [dsts] at hd
      split at hd
      · simp only [distinct] at hd; split at hd <;> first | (cases hd; done) | exact hd
      · exact hd
    rw [envF_go F l (k + 1) _ hd' i r d (by simpa [nth] using h) hr, Nat.add_assoc, Nat.add_comm 1 i]
theorem envF_at {F : Nat → EV} {l : List RI} {e : Env} (hd : distinct (dsts l) = true) {i : Nat} {r : RI} {d : Nat} (h : nth l i = some r) (hr : r.dst = some d) : envF F 0 l e d = F i := by
  have := envF_go F l 0 e hd i r d h hr
  rwa [Nat.zero_add] at this

def okIS (l : List RI) (deps : List (List Nat)) (sts : List Nat) (i : Nat) (r : RI) : Bool :=
  (match r.dst with | none => memN sts i | some _ => !memN sts i) && (allB (fun j => Nat.blt j i) (nthD deps i) && allB (fun t => writersIn t (nthD deps i) i 0 l) (tempsI r))
def drawOkS (l : List RI) (deps : List (List Nat)) (sts : List Nat) : Bool :=
  distinct (dsts l) && ((List.range l.length).all (fun i => match nth l i with | some r => okIS l deps sts i r | none => true) && sts.all (fun s => Nat.blt s l.length))
theorem drawOkS_distinct {l : List RI} {deps : List (List Nat)} {sts : List Nat} (h : drawOkS l deps sts = true) : distinct (dsts l) = true := by
  simp only [drawOkS, Bool.and_eq_true] at h; exact h.1
theorem drawOkS_sts {l : List RI} {deps : List (List Nat)} {sts : List Nat} (h : drawOkS l deps sts = true) {k s : Nat} (hk : nth sts k = some s) : s < l.length := by
  simp only [drawOkS, Bool.and_eq_true, List.all_eq_true] at h
  have hm : s ∈ sts := by rw [nth_eq] at hk; exact List.mem_of_getElem? hk
  have := h.2.2 s hm
  rwa [Nat.blt_eq] at this
theorem drawOkS_spec {l : List RI} {deps : List (List Nat)} {sts : List Nat} (h : drawOkS l deps sts = true) {i : Nat} {r : RI} (hi : nth l i = some r) :
    (∀ j ∈ nthD deps i, j < i) ∧ (∀ t ∈ tempsI r, ∀ j r', nth l j = some r' → r'.dst = some t → j ∈ nthD deps i ∧ j < i) ∧ (r.dst = none → i ∈ sts) ∧ (∀ d, r.dst = some d → i ∉ sts) := by
  simp only [drawOkS, Bool.and_eq_true, List.all_eq_true] at h
  have := h.2.1 i (List.mem_range.2 (nth_lt hi))
  rw [hi] at this
  simp only [okIS, Bool.and_eq_true] at this
  obtain ⟨a, b, c⟩ := this
  refine ⟨fun j hj => by have := (allB_iff _ _).1 b j hj; rwa [Nat.blt_eq] at this, fun t ht j r' hj hd' => ?_, fun hd => ?_, fun d hd => ?_⟩
  · have := writersIn_spec t _ _ l 0 ((allB_iff _ _).1 c t ht) j r' hj hd'
    rw [Nat.zero_add] at this; exact this
  · rw [hd] at a; exact (memN_iff _ _).1 a
  · rw [hd] at a
    intro hm
    rw [(memN_iff _ _).2 hm] at a; cases a

section
variable {X : Cx} {g : Gh} {l : List RI} {deps : List (List Nat)} {env : Env}
def okAt (deps : List (List Nat)) (sts : List Nat) (i c : Nat) : Prop := ∀ k s, nth sts k = some s → (k < c → i ∉ anc deps s ∧ i ≠ s) ∧ (c ≤ k → s ∉ anc deps i)
def EndS (B : Nat → List Bx) (F : Nat → EV) (i : Nat) (r : RI) (c : Nat) (env' : Env) (bs' : List Bx) (g'' : Gh) : Prop :=
  True ∧ (match r.dst with | some d => bs' = B c ∧ env' d = F i | none => bs' = B (c + 1))
def GoalS (X : Cx) (g : Gh) (l : List RI) (env : Env) (B : Nat → List Bx) (F : Nat → EV) (i : Nat) (r : RI) (c : Nat) : Prop :=
  vcS X ⟨[.ops [r], .fin (fun env' bs' g'' => g'' = g ∧ EndS B F i r c env' bs' g'')], restr (tempsI r) (envF F 0 l env), B c⟩ g
def DrawInvS (X : Cx) (g : Gh) (l : List RI) (deps : List (List Nat)) (env : Env) (sts : List Nat) (B : Nat → List Bx) (F : Nat → EV) (listed : Array Bool) (a : Act) (W : World) : Prop :=
  ∃ c, Sim X g (B c) W ∧ c ≤ sts.length ∧ (∀ k s, k < c → nth sts k = some s → listed.getD s false = true) ∧ (∀ k s, c ≤ k → nth sts k = some s → listed.getD s false = false) ∧
    a.defers = [] ∧ X.N ≤ a.tmps.size ∧ (∀ t, t ∉ dsts l → Is (B c) (env t) (a.tmps.getD t undef)) ∧
    (∀ i r d, nth l i = some r → r.dst = some d → listed.getD i false = true → Is (B c) (F i) (a.tmps.getD d undef)) ∧ (∀ i, listed.getD i false = true → ∀ j ∈ nthD deps i, listed.getD j false = true)

theorem vc_drawS (hm : X.P.follows .mixedOrders = true) (n : Nat) {st : St} {ks : List K} {bs : List Bx}
    (hst : adv n st = ⟨.code (.drw l deps) :: ks, env, bs⟩) (sts : List Nat) (B : Nat → List Bx) (F : Nat → EV) (hB : B 0 = bs) (hlat : ∀ c, Later (B c) (B (c + 1)))
    (hchk : drawOkS l deps sts = true) (hord : ∀ k1 k2 s1 s2, k1 < k2 → nth sts k1 = some s1 → nth sts k2 = some s2 → s1 ∈ anc deps s2) (hgoals : ∀ i r, nth l i = some r → ∀ c, c ≤ sts.length → okAt deps sts i c → GoalS X g l env B F i r c)
    (h : vcS X ⟨ks, envF F 0 l env, B sts.length⟩ g) : vcS X st g := by
  refine adv_ok n ?_
  rw [hst]
  intro ks' hk a0 W0 hs0 ha0
  subst hB
  cases hk with
  | @code c _ r' _ hc hr =>
  obtain ⟨id, ops, rfl, hl, rfl⟩ := resC_inv hc
  obtain ⟨hlen, hnth⟩ := resL_nth ops.toList l hl
  have hlen' : l.length = ops.size := by simpa using hlen
  have hspec := fun {i : Nat} {r : RI} => drawOkS_spec hchk (i := i) (r := r)
  have hdis := drawOkS_distinct hchk
  have hspecI : ∀ {k s : Nat}, nth sts k = some s → s < l.length := fun {k s} hk => drawOkS_sts hchk hk
  have key : ∀ fuel (listed : Array Bool) a W, listed.size = ops.size → ((List.range ops.size).filter (fun i => !listed.getD i true)).length = fuel →
      DrawInvS X g l (depsOf ops) env sts B F listed a W → wpAny X.P .any ops (wps X.P X.Q r') fuel listed a W := by
    intro fuel
    induction fuel with
    | zero =>
      intro listed a W hsize hfuel hinv
      have hall : ∀ i, i < ops.size → listed.getD i true = true := by
        intro i hi
        cases hb : listed.getD i true with
        | true => rfl
        | false =>
          have : i ∈ (List.range ops.size).filter (fun i => !listed.getD i true) := List.mem_filter.2 ⟨List.mem_range.2 hi, by simp [hb]⟩
          rw [List.eq_nil_of_length_eq_zero hfuel] at this
          simp at this
      have hall' : ∀ i, i < ops.size → listed.getD i false = true := by
        intro i hi
        have := hall i hi
        have hi' : i < listed.size := by omega
        simpa [Array.getD_eq_getD_getElem?, hi'] using this
      refine ⟨?_, ?_⟩
      · apply List.eq_nil_iff_forall_not_mem.2
        intro i hi
        obtain ⟨o, ho, h1, _⟩ := (ready_iff ops listed i).1 hi
        have := hall i (Array.getElem?_eq_some_iff.1 ho).1
        rw [this] at h1; cases h1
      · obtain ⟨c, hs, hc1, hc2, hc3, hdef, hsz, hout, hin, hcl⟩ := hinv
        have hcl' : c = sts.length := by
          rcases Nat.lt_or_ge c sts.length with hlt | hge
          · exfalso
            have := hc3 c _ (Nat.le_refl _) (by rw [nth_eq]; simp [hlt] : nth sts c = some sts[c])
            rw [hall' _ (by have := (hspecI (by rw [nth_eq]; simp [hlt] : nth sts c = some sts[c])); omega)] at this
            cases this
          · omega
        subst hcl'
        refine h r' hr a W hs ⟨hdef, hsz, fun t => ?_⟩
        · by_cases ht : t ∈ dsts l
          · obtain ⟨i, r, h1, h2⟩ := (mem_dsts l t).1 ht
            have := nth_lt h1
            show Is _ (envF F 0 l env t) _
            rw [envF_at hdis h1 h2]; exact hin i r t h1 h2 (hall' i (by omega))
          · show Is _ (envF F 0 l env t) _
            rw [envF_out _ _ _ _ _ ht]; exact hout t ht
    | succ fuel ih =>
      intro listed a W hsize hfuel hinv
      refine ⟨fun hempty => ?_, fun i hi => ?_⟩
      · exfalso
        have hall : ∀ m i, i < m → i < ops.size → listed.getD i true = true := by
          intro m
          induction m with
          | zero => intro i hi; omega
          | succ m ihm =>
            intro i him hi
            cases hb : listed.getD i true with
            | true => rfl
            | false =>
              exfalso
              have ho : ops[i]? = some ops[i] := by simp [hi]
              obtain ⟨r, hr1, _⟩ := hnth i ops[i] (by simp [hi])
              have : i ∈ Region.ready .any ops listed := (ready_iff ops listed i).2 ⟨_, ho, hb, fun j hj => by
                have hji := (hspec hr1).1 j hj
                have := ihm j (by omega) (by omega)
                have hj' : j < listed.size := by omega
                simpa [Array.getD_eq_getD_getElem?, hj'] using this⟩
              rw [hempty] at this
              simp at this
        have : (List.range ops.size).filter (fun i => !listed.getD i true) = [] := by
          apply List.filter_eq_nil_iff.2
          intro i hi
          have := hall (i + 1) i (by omega) (List.mem_range.1 hi)
          simp [this]
        rw [this] at hfuel
        simp at hfuel
      · obtain ⟨o, ho, hun, hdeps⟩ := (ready_iff ops listed i).1 hi
        have hilt : i < ops.size := (Array.getElem?_eq_some_iff.1 ho).1
        have hilt' : i < listed.size := by omega
        have hun' : listed.getD i false = false := by simpa [Array.getD_eq_getD_getElem?, hilt'] using hun
        obtain ⟨r, hri, hres⟩ := hnth i o (by simpa using ho)
        obtain ⟨p1, p2, p3, _⟩ := resI_parts hres
        obtain ⟨hdl, hwr, hst1, hst2⟩ := hspec hri
        obtain ⟨c, hs, hc1, hc2, hc3, hdef, hsz, hout, hin, hcl⟩ := hinv
        have hfuel' : ((List.range ops.size).filter (fun j => !(listed.setIfInBounds i true).getD j true)).length = fuel := by
          have hsplit : ∀ (L : List Nat), L.Nodup → i ∈ L → (L.filter (fun j => !listed.getD j true)).length = (L.filter (fun j => !(listed.setIfInBounds i true).getD j true)).length + 1 := by
            intro L
            induction L with
            | nil => intro _ h; simp at h
            | cons x L ihL =>
              intro hnd hmem
              have hset : ∀ j, (listed.setIfInBounds i true).getD j true = if i = j then true else listed.getD j true := by
                intro j
                simp only [Array.getD_eq_getD_getElem?, Array.getElem?_setIfInBounds]
                by_cases h : i = j
                · subst h; simp [hilt']
                · simp [h]
              obtain ⟨hx, hnd'⟩ := List.nodup_cons.1 hnd
              by_cases e : i = x
              · subst e
                have hsame : L.filter (fun j => !(listed.setIfInBounds i true).getD j true) = L.filter (fun j => !listed.getD j true) := by
                  apply List.filter_congr
                  intro j hj
                  have : i ≠ j := fun e => hx (by rw [e]; exact hj)
                  rw [hset, if_neg this]
                rw [List.filter_cons_of_pos (by simp [hun]), List.filter_cons_of_neg (by simp [hset]), hsame, List.length_cons]
              · have hm' : i ∈ L := by
                  rcases List.mem_cons.1 hmem with h | h
                  · exact absurd h e
                  · exact h
                have := ihL hnd' hm'
                by_cases hb : listed.getD x true = true
                · rw [List.filter_cons_of_neg (by simp [hb]), List.filter_cons_of_neg (by rw [hset, if_neg e]; simp [hb])]; exact this
                · rw [List.filter_cons_of_pos (by simpa using hb), List.filter_cons_of_pos (by rw [hset, if_neg e]; simpa using hb), List.length_cons, List.length_cons, this]
          have := hsplit (List.range ops.size) List.nodup_range (List.mem_range.2 hilt)
          omega
        have hclo : ∀ j, j ∈ anc (depsOf ops) i → listed.getD j false = true := fun j hj => by
          have := anc_closed (deps := depsOf ops) (D := fun m => m = i ∨ listed.getD m false = true) (fun m hm k hk => by
            rcases hm with rfl | hm
            · exact .inr (hdeps k hk)
            · exact .inr (hcl m hm k hk)) (.inl rfl) j hj
          rcases this with e | e
          · exfalso
            subst e
            have gen : ∀ (k : Nat) (s : List Nat), (∀ m ∈ s, m < j) → j ∉ ancGo (depsOf ops) k s := by
              intro k
              induction k with
              | zero => intro s hs' hm; have := hs' j hm; omega
              | succ k ihk =>
                intro s hs'
                simp only [ancGo]
                split
                · rename_i hmk
                  refine ihk _ fun m hm => ?_
                  rcases joinN_mem _ _ _ hm with h | h
                  · have hkj := hs' k ((memN_iff _ _).1 hmk)
                    have hk' : k < ops.size := by omega
                    obtain ⟨rk, hrk, _⟩ := hnth k _ (by simp [hk'] : ops.toList[k]? = some ops[k])
                    have := (hspec hrk).1 m h
                    omega
                  · exact hs' m h
                · exact ihk s hs'
            exact gen j _ (fun m hm => hdl m hm) hj
          · exact e
        have hok : okAt (depsOf ops) sts i c := by
          intro k s hk
          refine ⟨fun hkc => ⟨fun hm => ?_, fun e => ?_⟩, fun hkc hm => ?_⟩
          · have := anc_closed (deps := depsOf ops) (D := fun m => listed.getD m false = true) hcl (hc2 k s hkc hk) i hm
            rw [hun'] at this; cases this
          · subst e
            have := hc2 k i hkc hk; rw [hun'] at this; cases this
          · have := hclo s hm
            rw [hc3 k s hkc hk] at this; cases this
        have hE : ∀ t ∈ tempsI r, Is (B c) (envF F 0 l env t) (a.tmps.getD t undef) := by
          intro t ht
          by_cases hm : t ∈ dsts l
          · obtain ⟨j, r2, h1, h2⟩ := (mem_dsts l t).1 hm
            rw [envF_at hdis h1 h2]
            exact hin j r2 t h1 h2 (hdeps j (hwr t ht j r2 h1 h2).1)
          · rw [envF_out _ _ _ _ _ hm]; exact hout t hm
        have hagr : Agr X (B c) (restr (tempsI r) (envF F 0 l env)) a := by
          refine ⟨hdef, hsz, fun t => ?_⟩
          unfold restr
          cases hmt : memN (tempsI r) t with
          | true => exact hE t ((memN_iff _ _).1 hmt)
          | false => exact trivial
        have hsize' : (listed.setIfInBounds i true).size = ops.size := by simpa using hsize
        have hv := hgoals i r hri c hc1 hok
        let S : Act → World → Prop := fun a2 W2 => ∃ env2 bs2, Sim X g bs2 W2 ∧ Agr X bs2 env2 a2 ∧ EndS B F i r c env2 bs2 g
        have hrun := hv [.ops ops [i], .fin S] (.ops ⟨⟨o, ho, hres⟩, trivial⟩ (.fin (fun a2 W2 env2 bs2 g2 hs2 ha2 hR => by
          have h1 := hR.1; subst h1; exact ⟨env2, bs2, hs2, ha2, hR.2⟩) .nil)) a W hs hagr
        have hrun' : wpOp X.P ops (wps X.P X.Q [.fin S]) i S a W := by
          have : wpOps X.P ops (wps X.P X.Q [.fin S]) [i] a W := hrun
          rw [wpOps_cons] at this
          exact wpOp_mono (fun a w hw => hw) this
        refine wpOp_to hrun' ho (fun ds v W2 hS => ?_) (fun c a w hp => by rw [wps_panic] at hp ⊢; exact hp) (fun a w hp => by rw [wps_outgrown] at hp ⊢; exact hp)
        obtain ⟨env2, bs2, hs2, ha2, hR⟩ := hS
        have hds : ds = [] := by
          have := ha2.defers
          have e : (({ a with defers := ds ++ a.defers } : Act).put o.dst v).defers = ds ++ a.defers := by cases o.dst <;> rfl
          rw [e] at this
          exact (List.append_eq_nil_iff.1 this).1
        subst hds
        have hput : ∀ d, r.dst = some d → ∀ t, ((({ a with defers := [] ++ a.defers } : Act).put (some d) v).tmps.getD t undef) = if t = d then v else a.tmps.getD t undef := by
          intro d hd t
          have hdN : d < X.N := by rw [hd] at p3; simpa using p3
          simp only [Act.put, Array.getD_eq_getD_getElem?, Array.getElem?_setIfInBounds]
          by_cases h : t = d
          · subst h; simp [show t < a.tmps.size by omega]
          · simp [h, Ne.symm h]
        have hclN : ∀ j, (listed.setIfInBounds i true).getD j false = true → ∀ k ∈ nthD (depsOf ops) j, (listed.setIfInBounds i true).getD k false = true := by
          intro j hlj k hk
          rw [getD_set _ _ _ hilt'] at hlj ⊢
          by_cases e : i = j
          · subst e; split
            · rfl
            · exact hdeps k hk
          · rw [if_neg e] at hlj
            split
            · rfl
            · exact hcl j hlj k hk
        rw [p2] at ha2 ⊢
        refine ih (listed.setIfInBounds i true) _ W2 hsize' hfuel' ?_
        cases hd : r.dst with
        | some d =>
          rw [hd] at ha2
          have hR2 := hR.2
          rw [hd] at hR2
          obtain ⟨rfl, hval⟩ := hR2
          have hni := hst2 d hd
          have hne : ∀ k s, nth sts k = some s → i ≠ s := fun k s hk e => hni (by rw [e]; rw [nth_eq] at hk; exact List.mem_of_getElem? hk)
          refine ⟨c, hs2, hc1, fun k s hkc hk => ?_, fun k s hkc hk => ?_, by simpa [Act.put] using hdef, by simpa [Act.put] using hsz, fun t ht => ?_, fun j r2 d2 hj hd2 hlj => ?_, hclN⟩
          · rw [getD_set _ _ _ hilt', if_neg (hne k s hk)]; exact hc2 k s hkc hk
          · rw [getD_set _ _ _ hilt', if_neg (hne k s hk)]; exact hc3 k s hkc hk
          · rw [hput d hd, if_neg (fun e => ht (by subst e; exact (mem_dsts l t).2 ⟨i, r, hri, hd⟩))]; exact hout t ht
          · rw [getD_set _ _ _ hilt'] at hlj
            rw [hput d hd]
            by_cases e : i = j
            · subst e
              rw [hri] at hj; injection hj with hj; subst hj
              rw [hd] at hd2; injection hd2 with hd2; subst hd2
              rw [if_pos rfl, ← hval]
              have := ha2.is d
              rw [hput d hd, if_pos rfl] at this; exact this
            · rw [if_neg e] at hlj
              have hdd : d2 ≠ d := fun h => e (distinct_dst hdis i j r r2 d hri hj hd (by rw [hd2, h]))
              rw [if_neg hdd]; exact hin j r2 d2 hj hd2 hlj
        | none =>
          have hR2 := hR.2
          rw [hd] at hR2
          subst hR2
          obtain ⟨k0, hk0⟩ : ∃ k0, nth sts k0 = some i := by
            obtain ⟨k0, hk, e⟩ := List.getElem_of_mem (hst1 hd)
            exact ⟨k0, by rw [nth_eq]; simp [hk, e]⟩
          have hk0c : k0 = c := by
            rcases Nat.lt_trichotomy k0 c with h1 | h1 | h1
            · have := hc2 k0 i h1 hk0; rw [hun'] at this; cases this
            · exact h1
            · exfalso
              have hlt : c < sts.length := by have := nth_lt hk0; omega
              have hs1 : nth sts c = some sts[c] := by rw [nth_eq]; simp [hlt]
              have := hclo _ (hord c k0 _ _ h1 hs1 hk0)
              rw [hc3 c _ (Nat.le_refl _) hs1] at this; cases this
          subst hk0c
          have hinj : ∀ k, nth sts k = some i → k = k0 := fun k hk => by
            rcases Nat.lt_trichotomy k k0 with h1 | h1 | h1
            · have := hc2 k i h1 hk; rw [hun'] at this; cases this
            · exact h1
            · have := hclo _ (hord k0 k _ _ h1 hk0 hk); rw [hun'] at this; cases this
          refine ⟨k0 + 1, hs2, by have := nth_lt hk0; omega, fun k s hkc hk => ?_, fun k s hkc hk => ?_, hdef, hsz, fun t ht => (hlat k0).is (hout t ht), fun j r2 d2 hj hd2 hlj => ?_, hclN⟩
          · rw [getD_set _ _ _ hilt']
            split
            · rfl
            · rename_i hne
              refine hc2 k s ?_ hk
              rcases Nat.lt_or_ge k k0 with h1 | h1
              · exact h1
              · have : k = k0 := by omega
                subst this; rw [hk0] at hk; injection hk with hk; exact absurd hk hne
          · rw [getD_set _ _ _ hilt', if_neg (fun e => by subst e; have := hinj k hk; omega)]; exact hc3 k s (by omega) hk
          · rw [getD_set _ _ _ hilt'] at hlj
            by_cases e : i = j
            · subst e; rw [hri] at hj; injection hj with hj; subst hj; rw [hd] at hd2; cases hd2
            · rw [if_neg e] at hlj; exact (hlat k0).is (hin j r2 d2 hj hd2 hlj)
  refine wp_region_any hm (key ops.size (Array.replicate ops.size false) a0 _ (by simp) ?_ ⟨0, hs0.drew, Nat.zero_le _, fun k s hk => by omega, fun k s _ _ => ?_, ha0.defers, ha0.size, fun t _ => ha0.is t, fun i r d _ _ hi => ?_, fun i hi => ?_⟩)
  · have : (List.range ops.size).filter (fun i => !(Array.replicate ops.size false).getD i true) = List.range ops.size := by
      apply List.filter_eq_self.2
      intro i hi
      have := List.mem_range.1 hi
      simp [Array.getD_eq_getD_getElem?, this]
    rw [this, List.length_range]
  · simp only [Array.getD_eq_getD_getElem?, Array.getElem?_replicate]; split <;> rfl
  all_goals
    simp only [Array.getD_eq_getD_getElem?, Array.getElem?_replicate] at hi
    split at hi <;> simp at hi

end
end Go.Proofs.YtmolncgdehfejaaGreatDoor

/- Plain laws on lists: elements that change places, insertion, rotation, merging of sorted lists. No program stands in it. -/
namespace Go.Proofs.YtmolncgdehfejaaGreatDoor
open Go

section
variable {α : Type}

theorem set_at (X Y : List α) (u v : α) : (X ++ u :: Y).set X.length v = X ++ v :: Y := by
  induction X with
  | nil => rfl
  | cons x X ih => simp [ih]
theorem get_at (X Y : List α) (u : α) : nth (X ++ u :: Y) X.length = some u := by
  rw [nth_append, if_neg (by omega), Nat.sub_self]; rfl
theorem get_at' {X Y : List α} {u : α} {k : Nat} (h : k = X.length) : nth (X ++ u :: Y) k = some u := by subst h; exact get_at X Y u
theorem set_at' {X Y : List α} {u v : α} {k : Nat} (h : k = X.length) : (X ++ u :: Y).set k v = X ++ v :: Y := by subst h; exact set_at X Y u v

/-- The order that the sort is handed: x stands ahead of y. -/
structure OrdOk (S : α → Prop) (lt : α → α → Prop) : Prop where
  asym : ∀ x y, S x → S y → lt x y → ¬ lt y x
  trans : ∀ x y z, S x → S y → S z → ¬ lt y x → ¬ lt z y → ¬ lt z x

def Srtd (lt : α → α → Prop) (l : List α) : Prop := l.Pairwise fun x y => ¬ lt y x

theorem Srtd.parts {lt : α → α → Prop} {l r : List α} (h : Srtd lt (l ++ r)) : Srtd lt l ∧ Srtd lt r ∧ ∀ x ∈ l, ∀ y ∈ r, ¬ lt y x := List.pairwise_append.1 h
theorem Srtd.one {lt : α → α → Prop} (x : α) : Srtd lt [x] := by simp [Srtd]
theorem Srtd.nil {lt : α → α → Prop} : Srtd lt ([] : List α) := List.Pairwise.nil

/-- x comes to rest behind P and ahead of Q. -/
theorem ins_rest {S : α → Prop} {lt : α → α → Prop} (ho : OrdOk S lt) {P Q : List α} {x : α} (hs : ∀ y ∈ P ++ x :: Q, S y) (h : Srtd lt (P ++ Q)) (hq : ∀ q ∈ Q, lt x q)
    (hp : ∀ P' p, P = P' ++ [p] → ¬ lt x p) : Srtd lt (P ++ x :: Q) := by
  obtain ⟨h1, h2, h3⟩ := h.parts
  have hx : S x := hs x (by simp)
  refine List.pairwise_append.2 ⟨h1, List.pairwise_cons.2 ⟨fun q hqm => ho.asym x q hx (hs q (by simp [hqm])) (hq q hqm), h2⟩, fun p hpm y hy => ?_⟩
  rcases List.mem_cons.1 hy with rfl | hy
  · rcases List.eq_nil_or_concat P with rfl | ⟨P', p', rfl⟩
    · simp at hpm
    · rw [List.concat_eq_append] at *
      have hlast := hp P' p' rfl
      rcases List.mem_append.1 hpm with hm | hm
      · have := (List.pairwise_append.1 h1).2.2 p hm p' (by simp)
        exact ho.trans p p' y (hs p (by simp [hm])) (hs p' (by simp)) hx this hlast
      · simp only [List.mem_singleton] at hm; subst hm; exact hlast
  · exact h3 p hpm y hy

/-- The two halves that a merge goes on with. -/
theorem halves {S : α → Prop} {lt : α → α → Prop} (ho : OrdOk S lt) {U1 U2 V1 V2 : List α} (hs : ∀ y ∈ U1 ++ U2 ++ (V1 ++ V2), S y) (hU : Srtd lt (U1 ++ U2)) (hV : Srtd lt (V1 ++ V2))
    (h1 : ∀ A x y B, U1 = A ++ [x] → V2 = y :: B → ¬ lt y x) (h2 : ∀ A x y B, U2 = x :: A → V1 = B ++ [y] → lt y x) :
    ∀ p ∈ U1 ++ V1, ∀ q ∈ U2 ++ V2, ¬ lt q p := by
  obtain ⟨u1, u2, u3⟩ := hU.parts
  obtain ⟨v1, v2, v3⟩ := hV.parts
  intro p hp q hq
  rcases List.mem_append.1 hp with hp | hp <;> rcases List.mem_append.1 hq with hq | hq
  · exact u3 p hp q hq
  · rcases List.eq_nil_or_concat U1 with rfl | ⟨A, x, rfl⟩
    · simp at hp
    rw [List.concat_eq_append] at *
    cases V2 with
    | nil => simp at hq
    | cons y B =>
      have e := h1 A x y B rfl rfl
      have sx : S x := hs x (by simp)
      have sy : S y := hs y (by simp)
      have a1 : ¬ lt y p := by
        rcases List.mem_append.1 hp with hm | hm
        · exact ho.trans p x y (hs p (by simp [hm])) sx sy ((List.pairwise_append.1 u1).2.2 p hm x (by simp)) e
        · simp only [List.mem_singleton] at hm; subst hm; exact e
      rcases List.mem_cons.1 hq with rfl | hq
      · exact a1
      · have := (List.pairwise_cons.1 v2).1 q hq
        have sp : S p := hs p (by rcases List.mem_append.1 hp with hm | hm <;> simp_all)
        exact ho.trans p y q sp sy (hs q (by simp [hq])) a1 this
  · rcases List.eq_nil_or_concat V1 with rfl | ⟨B, y, rfl⟩
    · simp at hp
    rw [List.concat_eq_append] at *
    cases U2 with
    | nil => simp at hq
    | cons x A =>
      have sx : S x := hs x (by simp)
      have sy : S y := hs y (by simp)
      have e := ho.asym y x sy sx (h2 A x y B rfl rfl)
      have a1 : ¬ lt x p := by
        rcases List.mem_append.1 hp with hm | hm
        · exact ho.trans p y x (hs p (by simp [hm])) sy sx ((List.pairwise_append.1 v1).2.2 p hm y (by simp)) e
        · simp only [List.mem_singleton] at hm; subst hm; exact e
      rcases List.mem_cons.1 hq with rfl | hq
      · exact a1
      · have := (List.pairwise_cons.1 u2).1 q hq
        have sp : S p := hs p (by rcases List.mem_append.1 hp with hm | hm <;> simp_all)
        exact ho.trans p x q sp sx (hs q (by simp [hq])) a1 this
  · exact v3 p hp q hq
theorem join_halves {lt : α → α → Prop} {L R W1 W2 : List α} (h : ∀ p ∈ L, ∀ q ∈ R, ¬ lt q p) (p1 : W1.Perm L) (p2 : W2.Perm R) (s1 : Srtd lt W1) (s2 : Srtd lt W2) : Srtd lt (W1 ++ W2) :=
  List.pairwise_append.2 ⟨s1, s2, fun p hp q hq => h p (p1.mem_iff.1 hp) q (p2.mem_iff.1 hq)⟩
theorem perm_halves {U1 U2 V1 V2 W1 W2 : List α} (p1 : W1.Perm (U1 ++ V1)) (p2 : W2.Perm (U2 ++ V2)) : (W1 ++ W2).Perm (U1 ++ U2 ++ (V1 ++ V2)) := by
  refine (p1.append p2).trans ?_
  rw [List.append_assoc, List.append_assoc]
  refine List.Perm.append_left U1 ?_
  rw [← List.append_assoc, ← List.append_assoc]
  exact List.Perm.append_right V2 List.perm_append_comm

theorem putSeg_nil (l : List α) (o : Nat) : putSeg l o [] = l := by cases l <;> simp [putSeg]
theorem putSeg_app (b : List α) (o : Nat) (ys : List α) : ∀ (a : List α), putSeg (a ++ b) (a.length + o) ys = a ++ putSeg b o ys
  | [] => by simp
  | x :: a => by
    cases ys with
    | nil => simp [putSeg_nil]
    | cons y ys =>
      rw [List.length_cons, show a.length + 1 + o = (a.length + o) + 1 by omega, List.cons_append, putSeg, putSeg_app b o (y :: ys) a, List.cons_append]
theorem putSeg_head (b : List α) : ∀ (ys a : List α), a.length = ys.length → putSeg (a ++ b) 0 ys = ys ++ b
  | [], a, h => by have := List.eq_nil_of_length_eq_zero h; subst this; simp [putSeg_nil]
  | y :: ys, [], h => by simp at h
  | y :: ys, x :: a, h => by rw [List.cons_append, putSeg, putSeg_head b ys a (by simpa using h), List.cons_append]
theorem seg_app (b : List α) (o n : Nat) : ∀ (a : List α), seg (a ++ b) (a.length + o) n = seg b o n
  | [] => by simp
  | x :: a => by
    rw [List.length_cons, show a.length + 1 + o = (a.length + o) + 1 by omega, List.cons_append]
    rw [← seg_app b o n a]
    cases n <;> simp [seg]
theorem seg_head (b : List α) : ∀ (a : List α), seg (a ++ b) 0 a.length = some a
  | [] => by cases b <;> simp [seg]
  | x :: a => by simp [seg, seg_head b a]

/-- Rows of one width that lie behind each other. -/
theorem seg_rows {w : Nat} (sp : List α) : ∀ (X : List (List α)) (c : List α) (Y : List (List α)), (∀ x ∈ X, x.length = w) → c.length = w → seg ((X ++ c :: Y).flatten ++ sp) (X.length * w) w = some c
  | [], c, Y, _, hc => by
    subst hc
    simp only [List.nil_append, List.flatten_cons, List.length_nil, Nat.zero_mul, List.append_assoc]
    exact seg_head _ c
  | x :: X, c, Y, h, hc => by
    have hx := h x (by simp)
    rw [List.cons_append, List.flatten_cons, List.append_assoc, List.length_cons, Nat.succ_mul, Nat.add_comm, ← hx, seg_app]
    rw [hx]; exact seg_rows sp X c Y (fun y hy => h y (by simp [hy])) hc
theorem putSeg_rows {w : Nat} (sp : List α) (d : List α) : ∀ (X : List (List α)) (c : List α) (Y : List (List α)), (∀ x ∈ X, x.length = w) → c.length = w → d.length = w → putSeg ((X ++ c :: Y).flatten ++ sp) (X.length * w) d = (X ++ d :: Y).flatten ++ sp
  | [], c, Y, _, hc, hd => by
    simp only [List.nil_append, List.flatten_cons, List.length_nil, Nat.zero_mul, List.append_assoc]
    exact putSeg_head _ d c (by omega)
  | x :: X, c, Y, h, hc, hd => by
    have hx := h x (by simp)
    rw [List.cons_append, List.flatten_cons, List.append_assoc, List.length_cons, Nat.succ_mul, Nat.add_comm, ← hx, putSeg_app]
    rw [hx, putSeg_rows sp d X c Y (fun y hy => h y (by simp [hy])) hc hd]; simp
theorem map_putSeg {β : Type} (f : α → β) : ∀ (l : List α) (o : Nat) (ys : List α), putSeg (l.map f) o (ys.map f) = (putSeg l o ys).map f
  | l, o, [] => by simp [putSeg_nil]
  | [], o, y :: ys => by simp [putSeg]
  | x :: l, 0, y :: ys => by simp [putSeg, map_putSeg f l 0 ys]
  | x :: l, o + 1, y :: ys => by
    have := map_putSeg f l o (y :: ys)
    simp only [List.map_cons] at this
    simp [putSeg, this]
theorem map_seg {β : Type} (f : α → β) : ∀ (l : List α) (o n : Nat) (r : List α), seg l o n = some r → seg (l.map f) o n = some (r.map f)
  | l, 0, 0, r, h => by cases l <;> simp_all [seg] <;> subst h <;> rfl
  | [], 0, n + 1, r, h => by simp [seg] at h
  | x :: l, 0, n + 1, r, h => by
    simp only [seg] at h
    split at h
    · rename_i r' hr
      injection h with h; subst h
      simp [seg, map_seg f l 0 n r' hr]
    · cases h
  | [], o + 1, n, r, h => by cases n <;> simp [seg] at h
  | x :: l, o + 1, n, r, h => by
    have h' : seg l o n = some r := by cases n <;> simpa [seg] using h
    have := map_seg f l o n r h'
    cases n <;> simpa [seg] using this
end

end Go.Proofs.YtmolncgdehfejaaGreatDoor

/- The rule for open order with stores, its goals listed; two structs as arguments. No program stands in it. -/
namespace Go.Proofs.YtmolncgdehfejaaGreatDoor
open Go Go.RowKit

def okAtGo (deps : List (List Nat)) (i c : Nat) : Nat → List Nat → Bool
  | _, [] => true
  | k, s :: r => (match Nat.blt k c with | true => !memN (anc deps s) i && !Nat.beq i s | false => !memN (anc deps i) s) && okAtGo deps i c (k + 1) r
def okAtB (deps : List (List Nat)) (sts : List Nat) (i c : Nat) : Bool := okAtGo deps i c 0 sts
theorem okAtGo_of {deps : List (List Nat)} {i c : Nat} : ∀ (r : List Nat) (k : Nat), (∀ j s, nth r j = some s → (k + j < c → i ∉ anc deps s ∧ i ≠ s) ∧ (c ≤ k + j → s ∉ anc deps i)) → okAtGo deps i c k r = true
  | [], _, _ => rfl
  | s :: r, k, h => by
    have h0 := h 0 s rfl
    have ih := okAtGo_of r (k + 1) fun j s' hj => by
      have := h (j + 1) s' (by simpa [nth] using hj)
      rwa [show k + (j + 1) = k + 1 + j by omega] at this
    have hm : ∀ (l : List Nat) (x : Nat), x ∉ l → memN l x = false := fun l x hx => by
      cases hb : memN l x with
      | false => rfl
      | true => exact absurd ((memN_iff _ _).1 hb) hx
    simp only [okAtGo, ih, Bool.and_true]
    cases hb : Nat.blt k c with
    | true =>
      rw [Nat.blt_eq] at hb
      obtain ⟨h1, h2⟩ := h0.1 (by omega)
      have h3 : Nat.beq i s = false := by
        cases he : Nat.beq i s with
        | false => rfl
        | true => exact absurd (Nat.eq_of_beq_eq_true he) h2
      simp [hm _ _ h1, h3]
    | false =>
      have : ¬ k < c := fun e => by rw [← Nat.blt_eq] at e; rw [hb] at e; cases e
      simp [hm _ _ (h0.2 (by omega))]
theorem okAtB_of {deps : List (List Nat)} {sts : List Nat} {i c : Nat} (h : okAt deps sts i c) : okAtB deps sts i c = true :=
  okAtGo_of sts 0 fun j s hj => by rw [Nat.zero_add]; exact h j s hj

/-- The stages that are listed are all that are allowed. -/
def stgRow (deps : List (List Nat)) (sts : List Nat) (i : Nat) (cs : List Nat) : Nat → Bool
  | 0 => !okAtB deps sts i 0 || memN cs 0
  | c + 1 => (!okAtB deps sts i (c + 1) || memN cs (c + 1)) && stgRow deps sts i cs c
def stgOk (deps : List (List Nat)) (sts : List Nat) (n : Nat) : Nat → List (List Nat) → Bool
  | _, [] => true
  | k, cs :: s => stgRow deps sts k cs n && stgOk deps sts n (k + 1) s
theorem stgRow_mem {deps : List (List Nat)} {sts : List Nat} {i : Nat} {cs : List Nat} : ∀ (n : Nat), stgRow deps sts i cs n = true → ∀ c, c ≤ n → okAtB deps sts i c = true → c ∈ cs
  | 0, h, c, hc, hok => by
    obtain rfl : c = 0 := by omega
    simp only [stgRow, hok, Bool.not_true, Bool.false_or] at h
    exact (memN_iff _ _).1 h
  | n + 1, h, c, hc, hok => by
    simp only [stgRow, Bool.and_eq_true] at h
    rcases Nat.lt_or_ge c (n + 1) with hlt | hge
    · exact stgRow_mem n h.2 c (by omega) hok
    · obtain rfl : c = n + 1 := by omega
      have h1 := h.1
      simp only [hok, Bool.not_true, Bool.false_or] at h1
      exact (memN_iff _ _).1 h1
theorem stgOk_at {deps : List (List Nat)} {sts : List Nat} {n : Nat} : ∀ (s : List (List Nat)) (k : Nat), stgOk deps sts n k s = true → ∀ i cs, nth s i = some cs → stgRow deps sts (k + i) cs n = true
  | [], _, _, i, cs, h => by simp [nth] at h
  | x :: s, k, h, 0, cs, hi => by
    simp only [nth, Option.some.injEq] at hi; subst hi
    simp only [stgOk, Bool.and_eq_true] at h; exact h.1
  | x :: s, k, h, i + 1, cs, hi => by
    simp only [stgOk, Bool.and_eq_true] at h
    have := stgOk_at s (k + 1) h.2 i cs (by simpa [nth] using hi)
    rwa [show k + 1 + i = k + (i + 1) by omega] at this
section
variable {X : Cx} {g : Gh} {l : List RI} {deps : List (List Nat)} {env : Env}
def goalsC (X : Cx) (g : Gh) (l : List RI) (env : Env) (B : Nat → List Bx) (F : Nat → EV) (i : Nat) (r : RI) : List Nat → Prop
  | [] => True
  | c :: q => GoalS X g l env B F i r c ∧ goalsC X g l env B F i r q
theorem goalsC_mem {B : Nat → List Bx} {F : Nat → EV} {i : Nat} {r : RI} : ∀ (q : List Nat), goalsC X g l env B F i r q → ∀ c, c ∈ q → GoalS X g l env B F i r c
  | [], _, c, h => by simp at h
  | c' :: q, hg, c, h => by
    rcases List.mem_cons.1 h with rfl | h
    · exact hg.1
    · exact goalsC_mem q hg.2 c h
/-- All goals, from the place k of the list on. -/
def goalsL (X : Cx) (g : Gh) (l0 : List RI) (env : Env) (B : Nat → List Bx) (F : Nat → EV) : Nat → List RI → List (List Nat) → Prop
  | _, [], _ => True
  | _, _ :: _, [] => False
  | k, r :: q, cs :: s => goalsC X g l0 env B F k r cs ∧ goalsL X g l0 env B F (k + 1) q s
theorem goalsL_at {B : Nat → List Bx} {F : Nat → EV} : ∀ (q : List RI) (s : List (List Nat)) (k : Nat), goalsL X g l env B F k q s → ∀ i r, nth q i = some r → ∃ cs, nth s i = some cs ∧ goalsC X g l env B F (k + i) r cs
  | [], _, _, _, i, r, h => by simp [nth] at h
  | x :: q, [], k, hg, _, _, _ => hg.elim
  | x :: q, cs :: s, k, hg, 0, r, h => by simp only [nth, Option.some.injEq] at h; subst h; exact ⟨cs, rfl, hg.1⟩
  | x :: q, cs :: s, k, hg, i + 1, r, h => by
    obtain ⟨cs', h1, h2⟩ := goalsL_at q s (k + 1) hg.2 i r (by simpa [nth] using h)
    exact ⟨cs', by simpa [nth] using h1, by rwa [show k + 1 + i = k + (i + 1) by omega] at h2⟩

def ordOk (deps : List (List Nat)) : List Nat → Bool
  | [] => true
  | s :: r => allB (fun s2 => memN (anc deps s2) s) r && ordOk deps r
theorem ordOk_spec {deps : List (List Nat)} : ∀ (sts : List Nat), ordOk deps sts = true → ∀ k1 k2 s1 s2, k1 < k2 → nth sts k1 = some s1 → nth sts k2 = some s2 → s1 ∈ anc deps s2
  | [], _, k1, k2, s1, s2, _, h, _ => by simp [nth] at h
  | s :: r, h, k1, k2, s1, s2, hlt, h1, h2 => by
    simp only [ordOk, Bool.and_eq_true] at h
    cases k2 with
    | zero => omega
    | succ k2 =>
      cases k1 with
      | zero =>
        simp only [nth, Option.some.injEq] at h1; subst h1
        have hm : s2 ∈ r := by
          have : nth r k2 = some s2 := by simpa [nth] using h2
          rw [nth_eq] at this; exact List.mem_of_getElem? this
        exact (memN_iff _ _).1 ((allB_iff _ _).1 h.1 s2 hm)
      | succ k1 => exact ordOk_spec r h.2 k1 k2 s1 s2 (by omega) (by simpa [nth] using h1) (by simpa [nth] using h2)

/-- Stores into the blocks that were there. -/
def sameBlk : List Bx → List Bx → Prop
  | [], _ => True
  | _ :: _, [] => False
  | b :: l, b' :: l' => b'.blk = b.blk ∧ sameBlk l l'
theorem later_sameBlk : ∀ {bs bs' : List Bx}, sameBlk bs bs' → Later bs bs' := by
  intro bs bs' h
  refine Later.of_blk ?_
  induction bs generalizing bs' with
  | nil => intro i b hb; simp [nth] at hb
  | cons x l ih =>
    cases bs' with
    | nil => exact h.elim
    | cons y l' =>
      intro i b hb
      cases i with
      | zero => simp only [nth, Option.some.injEq] at hb; subst hb; exact ⟨y, rfl, h.1⟩
      | succ i => exact ih h.2 i b (by simpa [nth] using hb)

theorem vc_drawT (hm : X.P.follows .mixedOrders = true) (n : Nat) {st : St} {ks : List K} {bs : List Bx}
    (hst : adv n st = ⟨.code (.drw l deps) :: ks, env, bs⟩) (sts : List Nat) (m : Nat) (stg : List (List Nat)) (B : Nat → List Bx) (F : Nat → EV) (hB : B 0 = bs) (hlat : ∀ c, Later (B c) (B (c + 1)))
    (hchk : (lenIs sts m && (drawOkS l deps sts && (ordOk deps sts && stgOk deps sts m 0 stg))) = true) (hgoals : goalsL X g l env B F 0 l stg)
    (h : vcS X ⟨ks, envF F 0 l env, B m⟩ g) : vcS X st g := by
  simp only [Bool.and_eq_true] at hchk
  obtain ⟨hsts, hchk, hord, hstg⟩ := hchk
  have hm' := lenIs_eq _ _ hsts
  subst hm'
  refine vc_drawS hm n hst sts B F hB hlat hchk (fun k1 k2 s1 s2 a b c => ordOk_spec sts hord k1 k2 s1 s2 a b c) (fun i r hi c hc hok => ?_) h
  obtain ⟨cs, h1, h2⟩ := goalsL_at l stg 0 hgoals i r hi
  rw [Nat.zero_add] at h2
  have h3 := stgOk_at stg 0 hstg i cs h1
  rw [Nat.zero_add] at h3
  exact goalsC_mem _ h2 c (stgRow_mem _ h3 c hc (okAtB_of hok))
end

theorem concL_vals' (bs : List Bx) : ∀ (xs : List Value), concL bs (xs.map C1.v) = some xs
  | [] => rfl
  | x :: r => by simp only [List.map_cons, concL, C1.at, concL_vals' bs r]
theorem concs2 {bs : List Bx} {env : Env} {a b : Operand} {x y : List Value} (ha : ev env a = .g (x.map .v)) (hb : ev env b = .g (y.map .v)) : concs bs env [a, b] = some [.agg x.toArray, .agg y.toArray] := by
  simp only [concs, ha, hb, conc, concL_vals']

end Go.Proofs.YtmolncgdehfejaaGreatDoor

/- Rows of one width in an own block, and what a sort is handed. No program stands in it. -/
namespace Go.Proofs.YtmolncgdehfejaaGreatDoor
open Go Go.RowKit

def rowsC (L : List (List Value)) (sp : List Value) : List Value := L.flatten ++ sp
def Wide (w : Nat) (L : List (List Value)) : Prop := ∀ x ∈ L, x.length = w ∧ allOne (x.map C1.v) = true

theorem Wide.sub {w : Nat} {L L' : List (List Value)} (h : Wide w L) (hs : ∀ x ∈ L', x ∈ L) : Wide w L' := fun x hx => h x (hs x hx)

theorem rowsC_length {w : Nat} {L : List (List Value)} {sp : List Value} (h : Wide w L) : (rowsC L sp).length = L.length * w + sp.length := by
  have hf : ∀ (L : List (List Value)), Wide w L → L.flatten.length = L.length * w := by
    intro L
    induction L with
    | nil => intro _; simp
    | cons x L ih =>
      intro h
      rw [List.flatten_cons, List.length_append, (h x (by simp)).1, ih (fun y hy => h y (by simp [hy])), List.length_cons, Nat.succ_mul]; omega
  rw [rowsC, List.length_append, hf L h]
theorem seg_row {w i : Nat} {L P R : List (List Value)} {sp u : List Value} (hL : L = P ++ u :: R) (hi : i = P.length) (h : Wide w L) : seg ((rowsC L sp).map C1.v) (0 + i * w) w = some (u.map C1.v) := by
  subst hL; subst hi
  rw [Nat.zero_add]
  exact map_seg C1.v _ _ _ _ (seg_rows sp P u R (fun x hx => (h x (by simp [hx])).1) (h u (by simp)).1)
theorem put_row {w i : Nat} {L L' P R : List (List Value)} {sp u v : List Value} (hL : L = P ++ u :: R) (hL' : L' = P ++ v :: R) (hi : i = P.length) (h : Wide w L) (hv : v.length = w) :
    putSeg ((rowsC L sp).map C1.v) (0 + i * w) (v.map C1.v) = (rowsC L' sp).map C1.v := by
  subst hL; subst hL'; subst hi
  rw [Nat.zero_add, map_putSeg]
  unfold rowsC
  rw [putSeg_rows sp v P u R (fun x hx => (h x (by simp [hx])).1) (h u (by simp)).1 hv]
theorem fit_row {w i : Nat} {L : List (List Value)} {sp : List Value} (hi : i < L.length) (h : Wide w L) : 0 + i * w + w ≤ ((rowsC L sp).map C1.v).length := by
  rw [List.length_map, rowsC_length h]
  have : i * w + w ≤ L.length * w := by
    have := Nat.mul_le_mul_right w (show i + 1 ≤ L.length by omega)
    rwa [Nat.succ_mul] at this
  omega
theorem lenIs_vals {w : Nat} {x : List Value} (h : x.length = w) : lenIs (x.map C1.v) w = true := lenIs_of _ _ (by simp [h])

theorem ren_v1 (perm : List Nat) (xs : List Value) : (xs.map C1.v).map (ren perm) = xs.map C1.v := by
  rw [List.map_map]; exact List.map_congr_left fun x _ => rfl
/-- The one block, told anew. -/
theorem ren_box1 (β : Option Nat) (ty : Nat) (xs : List Value) : [0].map (renB [0] [⟨β, ty, xs.map C1.v, true⟩]) = [⟨β, ty, xs.map C1.v, true⟩] := by
  simp only [List.map_cons, List.map_nil, renB, nth, ren_v1]
def oneB (β ty : Nat) (L : List (List Value)) (sp : List Value) : List Bx := [⟨some β, ty, (rowsC L sp).map C1.v, true⟩]
theorem ren_oneB (β ty : Nat) (L : List (List Value)) (sp : List Value) : [0].map (renB [0] (oneB β ty L sp)) = oneB β ty L sp := ren_box1 (some β) ty (rowsC L sp)
theorem later_oneB (β ty ty' : Nat) (L L' : List (List Value)) (sp : List Value) : Later (oneB β ty L sp) (oneB β ty' L' sp) := later_sameBlk ⟨rfl, trivial⟩

/-- What a sort is handed: a function that compares two rows. -/
structure SortX (P : Program) (w : Nat) (g : Gh) (f : Nat) (cp : List Value) (S : List Value → Prop) (ord : List Value → List Value → Int) : Prop where
  fn : ∃ fn, P.funcs[f]? = some fn ∧ fn.body.isSome = true ∧ (fn.name == "runtime.NumGoroutine") = false
  len : ∀ x, S x → x.length = w
  one : ∀ x, S x → allOne (x.map C1.v) = true
  cmp : ∀ x y, S x → S y → Ct P f ([] ++ [.agg x.toArray, .agg y.toArray] ++ cp) g (fun r g' => r = .int .i64 (ord x y) ∧ g' = g)
  ord : OrdOk S (fun x y => ord x y < 0)
theorem SortX.wide {P : Program} {w : Nat} {g : Gh} {f : Nat} {cp : List Value} {S : List Value → Prop} {ord : List Value → List Value → Int} (h : SortX P w g f cp S ord) {L : List (List Value)} (hL : ∀ x ∈ L, S x) : Wide w L :=
  fun x hx => ⟨h.len x (hL x hx), h.one x (hL x hx)⟩
abbrev ltOf (ord : List Value → List Value → Int) : List Value → List Value → Prop := fun x y => ord x y < 0

theorem wu {n : Int} (h1 : 0 ≤ n) (h2 : n < 18446744073709551616) : IntKind.u64.wrap n = n := by
  have : IntKind.u64.wrap n = n % 18446744073709551616 := by simp [IntKind.wrap, IntKind.bits, IntKind.signed]
  rw [this]; omega
theorem half_shr (x : Nat) : shft .shr .u64 ((x : Nat) : Int) 1 = some ((x / 2 : Nat) : Int) := by
  have h1 : (2 : Int) ^ (min (1 : Int).toNat IntKind.u64.bits) = 2 := by decide
  simp only [shft, h1]
  rw [Int.fdiv_eq_ediv_of_nonneg _ (by omega)]; rfl

/-- A temporary whose value is known is told by the value. -/
theorem vc_val {X : Cx} {g : Gh} (n t : Nat) {st : St} {ks : List K} {env : Env} {bs : List Bx} (hst : adv n st = ⟨ks, env, bs⟩) {x : C1} (hx : env t = .c x) {v : Value} (hv : x.at bs = some v)
    (h : vcS X ⟨ks, upd env t (.c (.v v)), bs⟩ g) : vcS X st g := by
  refine adv_ok n ?_
  rw [hst]
  intro ks' hk a W hs ha
  refine h ks' hk a W hs ⟨ha.defers, ha.size, fun u => ?_⟩
  by_cases hu : u = t
  · subst hu
    show Is bs (upd env u _ u) _
    rw [upd_same]
    have : Is bs (env u) (a.tmps.getD u undef) := ha.is u
    rw [hx] at this
    exact IsC.at this hv
  · show Is bs (upd env t _ u) _
    rw [upd_other _ _ _ _ hu]; exact ha.is u

section
variable {P : Program} {N : Nat} {rr : List RR} {W0 : World} {g0 g : Gh} {R : Value → Gh → Prop}
/-- The end of a function without results, where nothing new is handed over. -/
theorem vc_end0 (n : Nat) {st : St} {env : Env} {bs : List Bx} (hst : adv n st = ⟨[], env, bs⟩) {vs : List Value} (hv : retL env bs rr = some vs) (h : R (tup vs) g) :
    vcS (mkX P N rr W0 g0 R) st g := by
  refine adv_ok n ?_
  rw [hst]
  intro ks' hk a W hs ha
  cases hk with
  | nil => exact fun fn hfn => ⟨ha.defers, _, run_results (ret_run hs ha _ _ hfn _ hv), tup vs, g, rfl, ⟨hs.os, hs.tape, hs.output, hs.size, hs.old⟩, hs.le, hs.new, hs.ext, h⟩
end

end Go.Proofs.YtmolncgdehfejaaGreatDoor

/- Contracts: pieces of a row change places. -/
namespace Go.Proofs.YtmolncgdehfejaaGreatDoor
open Go
set_option maxRecDepth 10000

/-- Two rows of rows change places. -/
theorem swapRange13_ct {g : Gh} {β n c f : Nat} {sp cp : List Value} (X U M V Y : List (List Value)) (a b k : Nat) (hS : Wide 13 (X ++ U ++ M ++ V ++ Y)) (hlen : U.length = V.length) (hn : n = (X ++ U ++ M ++ V ++ Y).length) (hb : n ≤ 1099511627776) (ha : a = X.length) (hb' : b = X.length + U.length + M.length) (hk : k = U.length) :
    CtO Tryz.prog 275 [.slice (some ⟨β, 0, none⟩) n c, .int .i64 ((a : Nat) : Int), .int .i64 ((b : Nat) : Int), .int .i64 ((k : Nat) : Int), .func (.func f) #[] cp.toArray] g β 127 (rowsC (X ++ U ++ M ++ V ++ Y) sp)
      (fun _ cells g' => cells = rowsC (X ++ V ++ M ++ U ++ Y) sp ∧ g' = g) := by
  have hn' : n = X.length + U.length + M.length + V.length + Y.length := by rw [hn]; simp only [List.length_append]
  subst hk
  refine enterO ok275 (by simp) [.c (.s 0 0 n c), .c (.v (.int .i64 ((a : Nat) : Int))), .c (.v (.int .i64 ((b : Nat) : Int))), .c (.v (.int .i64 ((U.length : Nat) : Int))), .c (.v (.func (.func f) #[] cp.toArray))] rfl fun W => ?_
  refine vc_loop 100 rfl [0, 1, 2, 3, 10] (fun m vs bs g' => ∃ k : Nat, k ≤ U.length ∧ m = U.length - k ∧ vs = [.c (.s 0 0 n c), .c (.v (.int .i64 ((a : Nat) : Int))), .c (.v (.int .i64 ((b : Nat) : Int))), .c (.v (.int .i64 ((U.length : Nat) : Int))), .c (.v (.int .i64 ((k : Nat) : Int)))] ∧
    bs = oneB β 127 (X ++ V.take k ++ U.drop k ++ M ++ U.take k ++ V.drop k ++ Y) sp ∧ g' = g) U.length ⟨0, Nat.zero_le _, rfl, rfl, by simp [oneB], rfl⟩ ?_
  rintro m vs bs' g' ⟨k, hk, rfl, rfl, rfl, rfl⟩
  refine vc_if 100 rfl rfl rfl (fun h => ?_) (fun h => ?_)
  · have hlt : k < U.length := by have := of_decide_eq_true h; omega
    have hlt2 : k < V.length := by omega
    have e0 : X ++ V.take k ++ U.drop k ++ M ++ U.take k ++ V.drop k ++ Y = (X ++ V.take k) ++ U[k] :: (U.drop (k + 1) ++ M ++ U.take k ++ V[k] :: (V.drop (k + 1) ++ Y)) := by
      rw [dropk hlt, dropk hlt2]; simp only [List.append_assoc, List.cons_append, List.nil_append]
    have e2 : X ++ V.take (k + 1) ++ U.drop (k + 1) ++ M ++ U.take (k + 1) ++ V.drop (k + 1) ++ Y = (X ++ V.take k) ++ V[k] :: (U.drop (k + 1) ++ M ++ U.take k ++ U[k] :: (V.drop (k + 1) ++ Y)) := by
      rw [List.take_succ_eq_append_getElem hlt, List.take_succ_eq_append_getElem hlt2]; simp only [List.append_assoc, List.cons_append, List.nil_append]
    have lu : U[k].length = 13 := (hS _ (by simp)).1
    have lv : V[k].length = 13 := (hS _ (by simp)).1
    have ou : allOne (U[k].map C1.v) = true := (hS _ (by simp)).2
    have ov : allOne (V[k].map C1.v) = true := (hS _ (by simp)).2
    have hP : ∀ x ∈ X ++ V.take k, x ∈ X ++ U ++ M ++ V ++ Y := fun x hx => by
      rcases List.mem_append.1 hx with hx | hx
      · simp [hx]
      · have := List.mem_of_mem_take hx; simp [this]
    have hQ : ∀ x ∈ U.drop (k + 1) ++ M ++ U.take k, x ∈ X ++ U ++ M ++ V ++ Y := fun x hx => by
      rcases List.mem_append.1 hx with hx | hx
      · rcases List.mem_append.1 hx with hx | hx
        · have := List.mem_of_mem_drop hx; simp [this]
        · simp [hx]
      · have := List.mem_of_mem_take hx; simp [this]
    have hR : ∀ x ∈ V.drop (k + 1) ++ Y, x ∈ X ++ U ++ M ++ V ++ Y := fun x hx => by
      rcases List.mem_append.1 hx with hx | hx
      · have := List.mem_of_mem_drop hx; simp [this]
      · simp [hx]
    have lP : (X ++ V.take k).length = a + k := by simp only [List.length_append, List.length_take]; omega
    have lQ : (U.drop (k + 1) ++ M ++ U.take k).length + a + k + 1 = b + k := by simp only [List.length_append, List.length_take, List.length_drop]; omega
    have lR : (V.drop (k + 1) ++ Y).length + b + k + 1 = n := by simp only [List.length_append, List.length_drop]; omega
    have su : U[k] ∈ X ++ U ++ M ++ V ++ Y := by simp
    have sv : V[k] ∈ X ++ U ++ M ++ V ++ Y := by simp
    rw [e0]
    generalize e2l : X ++ V.take (k + 1) ++ U.drop (k + 1) ++ M ++ U.take (k + 1) ++ V.drop (k + 1) ++ Y = E2 at e2
    subst e2
    generalize U[k] = u at *
    generalize V[k] = v at *
    generalize X ++ V.take k = P at *
    generalize U.drop (k + 1) ++ M ++ U.take k = Q at *
    generalize V.drop (k + 1) ++ Y = R at *
    have hin : ∀ y z : List Value, y ∈ X ++ U ++ M ++ V ++ Y → z ∈ X ++ U ++ M ++ V ++ Y → Wide 13 (P ++ y :: (Q ++ z :: R)) := fun y z hy hz => hS.sub fun x hx => by
      simp only [List.mem_append, List.mem_cons] at hx
      rcases hx with hx | rfl | hx | rfl | hx
      · exact hP x hx
      · exact hy
      · exact hQ x hx
      · exact hz
      · exact hR x hx
    have w0 := hin u v su sv
    have w1 := hin v v sv sv
    have e0v : P ++ u :: (Q ++ v :: R) = (P ++ u :: Q) ++ v :: R := by simp
    have e1v : P ++ v :: (Q ++ v :: R) = (P ++ v :: Q) ++ v :: R := by simp
    have e2v : P ++ v :: (Q ++ u :: R) = (P ++ v :: Q) ++ u :: R := by simp
    have hu : a + k = P.length := lP.symm
    have hv : b + k = (P ++ u :: Q).length := by simp only [List.length_append, List.length_cons]; omega
    have hv' : b + k = (P ++ v :: Q).length := by simp only [List.length_append, List.length_cons]; omega
    have l0 : (P ++ u :: (Q ++ v :: R)).length = n := by simp only [List.length_append, List.length_cons]; omega
    have l1 : (P ++ v :: (Q ++ v :: R)).length = n := by simp only [List.length_append, List.length_cons]; omega
    refine vc_drawT mix 100 rfl [21, 23] 2 [[0], [0], [0], [0], [0, 1], [0, 1], [0, 1], [0, 1], [0], [0], [0], [0], [0], [0], [0], [0], [0], [0], [0], [0], [0], [0], [1], [1]] (fun c => match c with | 0 => oneB β 127 (P ++ u :: (Q ++ v :: R)) sp | 1 => oneB β 127 (P ++ v :: (Q ++ v :: R)) sp | _ => oneB β 127 (P ++ v :: (Q ++ u :: R)) sp) (fun i => match i with | 0 => .c (.s 0 0 n c) | 1 => .c (.v (.int .i64 ((a : Nat) : Int))) | 2 => .c (.v (.int .i64 ((k : Nat) : Int))) | 3 => .c (.v (.int .i64 ((a + k : Nat) : Int))) | 4 => .c (.s 0 0 n c) | 5 => .c (.v (.int .i64 ((b : Nat) : Int))) | 6 => .c (.v (.int .i64 ((k : Nat) : Int))) | 7 => .c (.v (.int .i64 ((b + k : Nat) : Int))) | 8 => .c (.s 0 0 n c) | 9 => .c (.v (.int .i64 ((b : Nat) : Int))) | 10 => .c (.v (.int .i64 ((k : Nat) : Int))) | 11 => .c (.v (.int .i64 ((b + k : Nat) : Int))) | 12 => .c (.p 0 (0 + (b + k) * 13)) | 13 => .g (v.map C1.v) | 14 => .c (.s 0 0 n c) | 15 => .c (.v (.int .i64 ((a : Nat) : Int))) | 16 => .c (.v (.int .i64 ((k : Nat) : Int))) | 17 => .c (.v (.int .i64 ((a + k : Nat) : Int))) | 18 => .c (.p 0 (0 + (a + k) * 13)) | 19 => .g (u.map C1.v) | 20 => .c (.p 0 (0 + (a + k) * 13)) | 21 => .c .no | 22 => .c (.p 0 (0 + (b + k) * 13)) | 23 => .c .no | _ => .c .no) rfl (fun c => ?_) (by kernel_rfl) ?_ ?_
    · match c with | 0 => exact later_oneB _ _ _ _ _ _ | 1 => exact later_oneB _ _ _ _ _ _ | _ + 2 => exact later_oneB _ _ _ _ _ _
    · refine ⟨⟨?_, trivial⟩, ⟨?_, trivial⟩, ⟨?_, trivial⟩, ⟨?_, trivial⟩, ⟨?_, ?_, trivial⟩, ⟨?_, ?_, trivial⟩, ⟨?_, ?_, trivial⟩, ⟨?_, ?_, trivial⟩, ⟨?_, trivial⟩, ⟨?_, trivial⟩, ⟨?_, trivial⟩, ⟨?_, trivial⟩, ⟨?_, trivial⟩, ⟨?_, trivial⟩, ⟨?_, trivial⟩, ⟨?_, trivial⟩, ⟨?_, trivial⟩, ⟨?_, trivial⟩, ⟨?_, trivial⟩, ⟨?_, trivial⟩, ⟨?_, trivial⟩, ⟨?_, trivial⟩, ⟨?_, trivial⟩, ⟨?_, trivial⟩, trivial⟩
      · exact vc_fin 100 rfl ⟨rfl, trivial, rfl, rfl⟩
      · exact vc_fin 100 rfl ⟨rfl, trivial, rfl, rfl⟩
      · exact vc_fin 100 rfl ⟨rfl, trivial, rfl, rfl⟩
      · exact vc_arith 100 rfl rfl rfl rfl rfl ((a + k : Nat) : Int) (wr (by omega) (by omega) (by omega)) (vc_fin 100 rfl ⟨rfl, trivial, rfl, rfl⟩)
      · exact vc_fin 100 rfl ⟨rfl, trivial, rfl, rfl⟩
      · exact vc_fin 100 rfl ⟨rfl, trivial, rfl, rfl⟩
      · exact vc_fin 100 rfl ⟨rfl, trivial, rfl, rfl⟩
      · exact vc_fin 100 rfl ⟨rfl, trivial, rfl, rfl⟩
      · exact vc_fin 100 rfl ⟨rfl, trivial, rfl, rfl⟩
      · exact vc_fin 100 rfl ⟨rfl, trivial, rfl, rfl⟩
      · exact vc_arith 100 rfl rfl rfl rfl rfl ((b + k : Nat) : Int) (wr (by omega) (by omega) (by omega)) (vc_fin 100 rfl ⟨rfl, trivial, rfl, rfl⟩)
      · exact vc_arith 100 rfl rfl rfl rfl rfl ((b + k : Nat) : Int) (wr (by omega) (by omega) (by omega)) (vc_fin 100 rfl ⟨rfl, trivial, rfl, rfl⟩)
      · exact vc_fin 100 rfl ⟨rfl, trivial, rfl, rfl⟩
      · exact vc_fin 100 rfl ⟨rfl, trivial, rfl, rfl⟩
      · exact vc_fin 100 rfl ⟨rfl, trivial, rfl, rfl⟩
      · exact vc_arith 100 rfl rfl rfl rfl rfl ((b + k : Nat) : Int) (wr (by omega) (by omega) (by omega)) (vc_fin 100 rfl ⟨rfl, trivial, rfl, rfl⟩)
      · exact vc_ias 100 rfl rfl rfl rfl rfl rfl (by omega) (by omega) (vc_fin 100 rfl ⟨rfl, trivial, rfl, rfl⟩)
      · exact vc_ldno 0 (v.map C1.v) rfl rfl rfl rfl (seg_row e0v hv w0) (vc_fin 100 rfl ⟨rfl, trivial, rfl, rfl⟩)
      · exact vc_fin 100 rfl ⟨rfl, trivial, rfl, rfl⟩
      · exact vc_fin 100 rfl ⟨rfl, trivial, rfl, rfl⟩
      · exact vc_fin 100 rfl ⟨rfl, trivial, rfl, rfl⟩
      · exact vc_arith 100 rfl rfl rfl rfl rfl ((a + k : Nat) : Int) (wr (by omega) (by omega) (by omega)) (vc_fin 100 rfl ⟨rfl, trivial, rfl, rfl⟩)
      · exact vc_ias 100 rfl rfl rfl rfl rfl rfl (by omega) (by omega) (vc_fin 100 rfl ⟨rfl, trivial, rfl, rfl⟩)
      · exact vc_ldno 0 (u.map C1.v) rfl rfl rfl rfl (seg_row rfl hu w0) (vc_fin 100 rfl ⟨rfl, trivial, rfl, rfl⟩)
      · exact vc_ias 100 rfl rfl rfl rfl rfl rfl (by omega) (by omega) (vc_fin 100 rfl ⟨rfl, trivial, rfl, rfl⟩)
      · exact vc_stno 0 rfl rfl rfl rfl rfl (lenIs_vals lv) ov (fit_row (by omega) w0) (vc_fin 100 rfl ⟨rfl, trivial, congrArg (fun l => [(⟨some β, 127, l, true⟩ : Bx)]) (put_row rfl rfl hu w0 lv)⟩)
      · exact vc_ias 100 rfl rfl rfl rfl rfl rfl (by omega) (by omega) (vc_fin 100 rfl ⟨rfl, trivial, rfl, rfl⟩)
      · exact vc_stno 0 rfl rfl rfl rfl rfl (lenIs_vals lu) ou (fit_row (by omega) w1) (vc_fin 100 rfl ⟨rfl, trivial, congrArg (fun l => [(⟨some β, 127, l, true⟩ : Bx)]) (put_row e1v e2v hv' w1 lu)⟩)
    refine vc_arith 100 rfl rfl rfl rfl rfl ((k + 1 : Nat) : Int) (wr (by omega) (by omega) (by omega)) ?_
    exact vc_fin 100 rfl ⟨U.length - (k + 1), [0], by omega, rfl, k + 1, by omega, rfl, rfl, by rw [e2l]; exact ren_oneB .., rfl⟩
  · have hkn : k = U.length := by have := of_decide_eq_false h; omega
    refine vc_endO 100 0 rfl rfl rfl _ (concL_vals' _ _) ⟨?_, rfl⟩
    rw [hkn, List.take_length, List.drop_length, hlen, List.take_length, List.drop_length]; simp

/-- Two neighbouring pieces change places. -/
theorem rotate13_ct {g : Gh} {β n c f : Nat} {sp cp : List Value} (X U V Y : List (List Value)) (a m b : Nat) (hS : Wide 13 (X ++ V ++ U ++ Y)) (hn : n = (X ++ V ++ U ++ Y).length) (hb : n ≤ 1099511627776) (ha : a = X.length) (hm : m = X.length + U.length) (hbb : b = X.length + U.length + V.length)
    (hU : 0 < U.length) (hV : 0 < V.length) :
    CtO Tryz.prog 244 [.slice (some ⟨β, 0, none⟩) n c, .int .i64 ((a : Nat) : Int), .int .i64 ((m : Nat) : Int), .int .i64 ((b : Nat) : Int), .func (.func f) #[] cp.toArray] g β 127 (rowsC (X ++ U ++ V ++ Y) sp)
      (fun _ cells g' => cells = rowsC (X ++ V ++ U ++ Y) sp ∧ g' = g) := by
  have hn' : n = X.length + V.length + U.length + Y.length := by rw [hn]; simp only [List.length_append]
  refine enterO ok244 (by simp) [.c (.s 0 0 n c), .c (.v (.int .i64 ((a : Nat) : Int))), .c (.v (.int .i64 ((m : Nat) : Int))), .c (.v (.int .i64 ((b : Nat) : Int))), .c (.v (.func (.func f) #[] cp.toArray))] rfl fun W => ?_
  refine vc_arith 100 rfl rfl rfl rfl rfl ((U.length : Nat) : Int) (wr (by omega) (by omega) (by omega)) ?_
  refine vc_arith 100 rfl rfl rfl rfl rfl ((V.length : Nat) : Int) (wr (by omega) (by omega) (by omega)) ?_
  refine vc_loop 100 rfl [0, 2, 4, 10, 11] (fun k vs bs g' => ∃ (i j : Nat) (X' U' V' Y' : List (List Value)), k = i + j ∧ vs = [.c (.s 0 0 n c), .c (.v (.int .i64 ((m : Nat) : Int))), .c (.v (.func (.func f) #[] cp.toArray)), .c (.v (.int .i64 ((i : Nat) : Int))), .c (.v (.int .i64 ((j : Nat) : Int)))] ∧
    bs = oneB β 127 (X' ++ U' ++ V' ++ Y') sp ∧ g' = g ∧ i = U'.length ∧ j = V'.length ∧ 0 < i ∧ 0 < j ∧ m = X'.length + i ∧ X' ++ V' ++ U' ++ Y' = X ++ V ++ U ++ Y) (U.length + V.length)
    ⟨U.length, V.length, X, U, V, Y, rfl, rfl, rfl, rfl, rfl, rfl, hU, hV, hm, rfl⟩ ?_
  rintro k vs bs' g' ⟨i, j, X', U', V', Y', rfl, rfl, rfl, rfl, hi, hj, hi0, hj0, hmi, he⟩
  have hw : ∀ L : List (List Value), (∀ x ∈ L, x ∈ X' ++ V' ++ U' ++ Y') → Wide 13 L := fun L hL => hS.sub fun x hx => by rw [← he]; exact hL x hx
  have hlen : n = X'.length + V'.length + U'.length + Y'.length := by rw [hn, ← he]; simp only [List.length_append]
  refine vc_if 100 rfl rfl rfl (fun h => ?_) (fun h => ?_)
  · have hne : i ≠ j := fun e => neqB h (by rw [e])
    refine vc_if 100 rfl rfl rfl (fun h => ?_) (fun h => ?_)
    · have hlt : j < i := by have := of_decide_eq_true h; omega
      obtain ⟨U1, U2, rfl, hU1⟩ : ∃ U1 U2, U' = U1 ++ U2 ∧ U1.length = j := ⟨U'.take j, U'.drop j, (List.take_append_drop j U').symm, by rw [List.length_take]; omega⟩
      have hU2 : U2.length = i - j := by rw [List.length_append] at hi; omega
      rw [show X' ++ (U1 ++ U2) ++ V' ++ Y' = X' ++ U1 ++ U2 ++ V' ++ Y' by simp]
      refine vc_arith 100 rfl rfl rfl rfl rfl ((X'.length : Nat) : Int) (wr (by omega) (by omega) (by omega)) ?_
      refine vc_callO 100 0 rfl rfl rfl rfl _ (concL_vals' _ _) (swapRange13_ct (f := f) (cp := cp) X' U1 U2 V' Y' X'.length m j (hw _ fun x hx => by simp only [List.mem_append] at hx ⊢; rcases hx with (((hx | hx) | hx) | hx) | hx <;> simp [hx]) (by omega) (by simp only [List.length_append] at hlen ⊢; omega) hb rfl (by omega) (by omega)) ?_
      rintro v cells' g2 - ⟨rfl, rfl⟩
      refine vc_arith 100 rfl rfl rfl rfl rfl ((i - j : Nat) : Int) (wr (by omega) (by omega) (by omega)) ?_
      exact vc_fin 100 rfl ⟨i - j + j, [0], by omega, rfl, i - j, j, X' ++ V', U2, U1, Y', rfl, rfl, ren_box1 .., rfl, hU2.symm, hU1.symm, by omega, hj0, by rw [List.length_append]; omega, by rw [← he]; simp⟩
    · have hlt : i < j := by have := of_decide_eq_false h; omega
      obtain ⟨V1, V2, rfl, hV1⟩ : ∃ V1 V2, V' = V1 ++ V2 ∧ V1.length = j - i := ⟨V'.take (j - i), V'.drop (j - i), (List.take_append_drop (j - i) V').symm, by rw [List.length_take]; omega⟩
      have hV2 : V2.length = i := by rw [List.length_append] at hj; omega
      have hmb : m + j ≤ n := by simp only [List.length_append] at hlen; omega
      rw [show X' ++ U' ++ (V1 ++ V2) ++ Y' = X' ++ U' ++ V1 ++ V2 ++ Y' by simp]
      refine vc_arith 100 rfl rfl rfl rfl rfl ((X'.length : Nat) : Int) (wr (by omega) (by omega) (by omega)) ?_
      refine vc_arith 100 rfl rfl rfl rfl rfl ((m + j : Nat) : Int) (wr (by omega) (by omega) (by omega)) ?_
      refine vc_arith 100 rfl rfl rfl rfl rfl ((m + j - i : Nat) : Int) (wr (by omega) (by omega) (by omega)) ?_
      refine vc_callO 100 0 rfl rfl rfl rfl _ (concL_vals' _ _) (swapRange13_ct (f := f) (cp := cp) X' U' V1 V2 Y' X'.length (m + j - i) i (hw _ fun x hx => by simp only [List.mem_append] at hx ⊢; rcases hx with (((hx | hx) | hx) | hx) | hx <;> simp [hx]) (by omega) (by simp only [List.length_append] at hlen ⊢; omega) hb rfl (by omega) (by omega)) ?_
      rintro v cells' g2 - ⟨rfl, rfl⟩
      refine vc_arith 100 rfl rfl rfl rfl rfl ((j - i : Nat) : Int) (wr (by omega) (by omega) (by omega)) ?_
      refine vc_fin 100 rfl ⟨i + (j - i), [0], by omega, rfl, i, j - i, X', V2, V1, U' ++ Y', rfl, rfl, ?_, rfl, hV2.symm, hV1.symm, hi0, by omega, hmi, by rw [← he]; simp⟩
      rw [← List.append_assoc]; exact ren_box1 ..
  · have hij : i = j := by have := eqB h; omega
    rw [show X' ++ U' ++ V' ++ Y' = X' ++ U' ++ [] ++ V' ++ Y' by simp]
    refine vc_arith 100 rfl rfl rfl rfl rfl ((X'.length : Nat) : Int) (wr (by omega) (by omega) (by omega)) ?_
    refine vc_callO 100 0 rfl rfl rfl rfl _ (concL_vals' _ _) (swapRange13_ct (f := f) (cp := cp) X' U' [] V' Y' X'.length m i (hw _ fun x hx => by simp only [List.mem_append] at hx ⊢; rcases hx with (((hx | hx) | hx) | hx) | hx <;> simp_all) (by omega) (by simp only [List.length_append, List.length_nil] at hlen ⊢; omega) hb rfl (by simp only [List.length_nil]; omega) (by omega)) ?_
    rintro v cells' g2 - ⟨rfl, rfl⟩
    refine vc_endO 100 0 rfl rfl rfl _ (concL_vals' _ _) ⟨?_, rfl⟩
    rw [← he]; simp

end Go.Proofs.YtmolncgdehfejaaGreatDoor

/- Contracts: a piece is sorted by insertion. -/
namespace Go.Proofs.YtmolncgdehfejaaGreatDoor
open Go
set_option maxRecDepth 10000

/-- A piece is sorted by insertion. -/
theorem insertion13_ct {g : Gh} {β n c f : Nat} {sp cp : List Value} {S : List Value → Prop} {ord : List Value → List Value → Int} (hx : SortX Tryz.prog 13 g f cp S ord) (X U Y : List (List Value)) (a b : Nat) (hS : ∀ x ∈ X ++ U ++ Y, S x) (hn : n = (X ++ U ++ Y).length) (hb : n ≤ 1099511627776) (ha : a = X.length) (hbb : b = X.length + U.length) :
    CtO Tryz.prog 211 [.slice (some ⟨β, 0, none⟩) n c, .int .i64 ((a : Nat) : Int), .int .i64 ((b : Nat) : Int), .func (.func f) #[] cp.toArray] g β 127 (rowsC (X ++ U ++ Y) sp)
      (fun _ cells g' => ∃ U', U'.Perm U ∧ Srtd (ltOf ord) U' ∧ cells = rowsC (X ++ U' ++ Y) sp ∧ g' = g) := by
  have hn' : n = X.length + U.length + Y.length := by rw [hn]; simp only [List.length_append]
  refine enterO ok211 (by simp) [.c (.s 0 0 n c), .c (.v (.int .i64 ((a : Nat) : Int))), .c (.v (.int .i64 ((b : Nat) : Int))), .c (.v (.func (.func f) #[] cp.toArray))] rfl fun W => ?_
  refine vc_arith 100 rfl rfl rfl rfl rfl ((a + 1 : Nat) : Int) (wr (by omega) (by omega) (by omega)) ?_
  refine vc_loop 100 rfl [0, 1, 2, 3, 8] (fun m vs bs g' => ∃ (k : Nat) (U0 : List (List Value)), 1 ≤ k ∧ m = U.length - k ∧ vs = [.c (.s 0 0 n c), .c (.v (.int .i64 ((a : Nat) : Int))), .c (.v (.int .i64 ((b : Nat) : Int))), .c (.v (.func (.func f) #[] cp.toArray)), .c (.v (.int .i64 ((a + k : Nat) : Int)))] ∧
    bs = oneB β 127 (X ++ U0 ++ U.drop k ++ Y) sp ∧ g' = g ∧ U0.Perm (U.take k) ∧ Srtd (ltOf ord) U0 ∧ k ≤ U.length + 1) (U.length - 1) ⟨1, U.take 1, Nat.le_refl _, rfl, rfl, by rw [List.append_assoc X (U.take 1), List.take_append_drop]; rfl, rfl, .refl _, by cases U <;> simp [Srtd], by omega⟩ ?_
  rintro m vs bs' g' ⟨k, U0, hk1, rfl, rfl, rfl, rfl, hperm, hsrt, hkU⟩
  refine vc_if 100 rfl rfl rfl (fun h => ?_) (fun h => ?_)
  · have hlt : k < U.length := by have := of_decide_eq_true h; omega
    have hU0 : U0.length = k := by rw [hperm.length_eq, List.length_take]; omega
    have hmemU : ∀ y ∈ U.take k, S y := fun y hy => hS y (by have := List.mem_of_mem_take hy; simp [this])
    have sx : S U[k] := hS _ (by simp)
    have hR : ∀ y ∈ U.drop (k + 1) ++ Y, S y := fun y hy => by
      rcases List.mem_append.1 hy with hy | hy
      · exact hS y (by have := List.mem_of_mem_drop hy; simp [this])
      · exact hS y (by simp [hy])
    have eL : X ++ U0 ++ U.drop k ++ Y = X ++ U0 ++ U[k] :: ([] ++ (U.drop (k + 1) ++ Y)) := by rw [dropk hlt]; simp only [List.append_assoc, List.cons_append, List.nil_append]
    have htake : U.take (k + 1) = U.take k ++ [U[k]] := List.take_succ_eq_append_getElem hlt
    have lR : (U.drop (k + 1) ++ Y).length + X.length + k + 1 = n := by simp only [List.length_append, List.length_drop]; omega
    have eR : ∀ Z : List (List Value), X ++ Z ++ U.drop (k + 1) ++ Y = X ++ Z ++ (U.drop (k + 1) ++ Y) := fun Z => by simp
    rw [eL]
    generalize U[k] = x at *
    generalize U.drop (k + 1) ++ Y = R at *
    refine vc_loop 100 rfl [0, 1, 2, 3, 8, 9] (fun m vs bs g2 => ∃ (j : Nat) (P Q : List (List Value)), m = P.length ∧ vs = [.c (.s 0 0 n c), .c (.v (.int .i64 ((a : Nat) : Int))), .c (.v (.int .i64 ((b : Nat) : Int))), .c (.v (.func (.func f) #[] cp.toArray)), .c (.v (.int .i64 ((a + k : Nat) : Int))), .c (.v (.int .i64 ((j : Nat) : Int)))] ∧
      bs = oneB β 127 (X ++ P ++ x :: (Q ++ R)) sp ∧ g2 = _ ∧ j = X.length + P.length ∧ (P ++ Q).Perm (U.take k) ∧ Srtd (ltOf ord) (P ++ Q) ∧ ∀ q ∈ Q, ltOf ord x q) U0.length ⟨a + k, U0, [], rfl, rfl, rfl, rfl, by omega, by simpa using hperm, by simpa using hsrt, by simp⟩ ?_
    rintro m vs bs' g2 ⟨j, P, Q, rfl, rfl, rfl, rfl, hj, hperm2, hsrt2, hq⟩
    have hPQ : (P ++ Q).length = k := by rw [hperm2.length_eq, List.length_take]; omega
    have hSP : ∀ y ∈ P ++ Q, S y := fun y hy => hmemU y (hperm2.mem_iff.1 hy)
    have hres : ∀ (hp : ∀ P' p, P = P' ++ [p] → ¬ ltOf ord x p), Srtd (ltOf ord) (P ++ x :: Q) ∧ (P ++ x :: Q).Perm (U.take (k + 1)) := fun hp =>
      ⟨ins_rest hx.ord (fun y hy => by
        simp only [List.mem_append, List.mem_cons] at hy
        rcases hy with hy | rfl | hy
        · exact hSP y (by simp [hy])
        · exact sx
        · exact hSP y (by simp [hy])) hsrt2 hq hp, by
        rw [htake]
        exact List.perm_middle.trans ((hperm2.cons x).trans (List.perm_append_comm (l₁ := [x])))⟩
    rcases List.eq_nil_or_concat P with rfl | ⟨P', p, rfl⟩
    · simp only [List.length_nil, Nat.add_zero] at hj
      obtain ⟨r1, r2⟩ := hres (fun P' p e => by simp at e)
      refine vc_drawF mix 100 rfl [2] (fun i => match i with | 2 => .c (.k false) | _ => .c .no) rfl rfl ⟨?_, trivial⟩ ?_
      · exact vc_split 100 20 rfl rfl (fun h => absurd (of_decide_eq_true h) (by omega)) (fun h => vc_fin 100 rfl ⟨rfl, rfl, fun d hd => by injection hd with hd; subst hd; rfl⟩)
      refine vc_arith 100 rfl rfl rfl rfl rfl ((a + (k + 1) : Nat) : Int) (wr (by omega) (by omega) (by omega)) ?_
      refine vc_fin 100 rfl ⟨U.length - (k + 1), [0], by omega, rfl, k + 1, [] ++ x :: Q, by omega, rfl, rfl, ?_, rfl, r2, r1, by omega⟩
      rw [eR, show X ++ ([] ++ x :: Q) ++ R = X ++ [] ++ x :: (Q ++ R) by simp]; exact ren_oneB ..
    · rw [List.concat_eq_append] at *
      have hq1 : X.length + P'.length + 1 = j := by rw [hj, List.length_append]; simp; omega
      generalize hqq : X.length + P'.length = q at hq1
      subst hq1
      have sp' : S p := hSP p (by simp)
      have hQl : P'.length + 1 + Q.length = k := by rw [← hPQ]; simp only [List.length_append, List.length_singleton]
      have hall : ∀ y z : List Value, S y → S z → Wide 13 ((X ++ P') ++ y :: z :: (Q ++ R)) := fun y z hy hz => hx.wide fun w hw => by
        simp only [List.mem_append, List.mem_cons] at hw
        rcases hw with (hw | hw) | rfl | rfl | hw | hw
        · exact hS w (by simp [hw])
        · exact hSP w (by simp [hw])
        · exact hy
        · exact hz
        · exact hSP w (by simp [hw])
        · exact hR w hw
      have w0 := hall p x sp' sx
      have w1 := hall p p sp' sp'
      have hip : q = (X ++ P').length := by rw [List.length_append]; omega
      have hix : q + 1 = (X ++ P' ++ [p]).length := by simp only [List.length_append, List.length_singleton]; omega
      have e0x : (X ++ P') ++ p :: x :: (Q ++ R) = (X ++ P' ++ [p]) ++ x :: (Q ++ R) := by simp
      have e1x : (X ++ P') ++ p :: p :: (Q ++ R) = (X ++ P' ++ [p]) ++ p :: (Q ++ R) := by simp
      have l0 : ((X ++ P') ++ p :: x :: (Q ++ R)).length = n := by simp only [List.length_append, List.length_cons]; omega
      have l1 : ((X ++ P') ++ p :: p :: (Q ++ R)).length = n := by simp only [List.length_append, List.length_cons]; omega
      rw [show X ++ (P' ++ [p]) ++ x :: (Q ++ R) = (X ++ P') ++ p :: x :: (Q ++ R) by simp]
      refine vc_drawF mix 100 rfl [2, 7, 8, 11, 12, 13, 14] (fun i => match i with | 2 => .c (.k true) | 7 => .c (.p 0 (0 + (q + 1) * 13)) | 8 => .g (x.map C1.v) | 11 => .c (.v (.int .i64 ((q : Nat) : Int))) | 12 => .c (.p 0 (0 + (q) * 13)) | 13 => .g (p.map C1.v) | 14 => .c (.v (.int .i64 (ord x p))) | _ => .c .no) rfl rfl ⟨?_, ?_, ?_, ?_, ?_, ?_, ?_, trivial⟩ ?_
      · exact vc_split 100 20 rfl rfl (fun h => vc_fin 100 rfl ⟨rfl, rfl, fun d hd => by injection hd with hd; subst hd; rfl⟩) (fun h => absurd (of_decide_eq_false h) (by omega))
      · exact vc_ias 100 rfl rfl rfl rfl rfl rfl (by omega) (by omega) (vc_fin 100 rfl ⟨rfl, rfl, fun d hd => by injection hd with hd; subst hd; rfl⟩)
      · exact vc_ldno 0 (x.map C1.v) rfl rfl rfl rfl (seg_row e0x hix w0) (vc_fin 100 rfl ⟨rfl, rfl, fun d hd => by injection hd with hd; subst hd; rfl⟩)
      · exact vc_arith 100 rfl rfl rfl rfl rfl ((q : Nat) : Int) (wr (by omega) (by omega) (by omega)) (vc_fin 100 rfl ⟨rfl, rfl, fun d hd => by injection hd with hd; subst hd; rfl⟩)
      · exact vc_ias 100 rfl rfl rfl rfl rfl rfl (by omega) (by omega) (vc_fin 100 rfl ⟨rfl, rfl, fun d hd => by injection hd with hd; subst hd; rfl⟩)
      · exact vc_ldno 0 (p.map C1.v) rfl rfl rfl rfl (seg_row rfl hip w0) (vc_fin 100 rfl ⟨rfl, rfl, fun d hd => by injection hd with hd; subst hd; rfl⟩)
      · refine vc_callv (first := []) (cap := cp) 100 rfl rfl rfl (concs2 rfl rfl) hx.fn (hx.cmp x p sx sp') ?_; rintro _ _ - ⟨rfl, rfl⟩; exact vc_fin 100 rfl ⟨rfl, rfl, fun d hd => by injection hd with hd; subst hd; rfl⟩
      refine vc_if 100 rfl rfl rfl (fun h => ?_) (fun h => ?_)
      · have hlt3 : ltOf ord x p := of_decide_eq_true h
        refine vc_drawT mix 100 rfl [15, 17] 2 [[0], [0], [0, 1], [0, 1], [0, 1], [0], [0], [0], [0], [0], [0], [0], [0], [0], [0], [0], [1], [1]] (fun c => match c with | 0 => oneB β 127 ((X ++ P') ++ p :: x :: (Q ++ R)) sp | 1 => oneB β 127 ((X ++ P') ++ p :: p :: (Q ++ R)) sp | _ => oneB β 127 ((X ++ P') ++ x :: p :: (Q ++ R)) sp) (fun i => match i with | 0 => .c (.s 0 0 n c) | 1 => .c (.v (.int .i64 ((q + 1 : Nat) : Int))) | 2 => .c (.s 0 0 n c) | 3 => .c (.v (.int .i64 ((q + 1 : Nat) : Int))) | 4 => .c (.v (.int .i64 ((q : Nat) : Int))) | 5 => .c (.s 0 0 n c) | 6 => .c (.v (.int .i64 ((q + 1 : Nat) : Int))) | 7 => .c (.v (.int .i64 ((q : Nat) : Int))) | 8 => .c (.p 0 (0 + (q) * 13)) | 9 => .g (p.map C1.v) | 10 => .c (.s 0 0 n c) | 11 => .c (.v (.int .i64 ((q + 1 : Nat) : Int))) | 12 => .c (.p 0 (0 + (q + 1) * 13)) | 13 => .g (x.map C1.v) | 14 => .c (.p 0 (0 + (q + 1) * 13)) | 15 => .c .no | 16 => .c (.p 0 (0 + (q) * 13)) | 17 => .c .no | _ => .c .no) rfl (fun c => ?_) (by kernel_rfl) ?_ ?_
        · match c with | 0 => exact later_oneB _ _ _ _ _ _ | 1 => exact later_oneB _ _ _ _ _ _ | _ + 2 => exact later_oneB _ _ _ _ _ _
        · refine ⟨⟨?_, trivial⟩, ⟨?_, trivial⟩, ⟨?_, ?_, trivial⟩, ⟨?_, ?_, trivial⟩, ⟨?_, ?_, trivial⟩, ⟨?_, trivial⟩, ⟨?_, trivial⟩, ⟨?_, trivial⟩, ⟨?_, trivial⟩, ⟨?_, trivial⟩, ⟨?_, trivial⟩, ⟨?_, trivial⟩, ⟨?_, trivial⟩, ⟨?_, trivial⟩, ⟨?_, trivial⟩, ⟨?_, trivial⟩, ⟨?_, trivial⟩, ⟨?_, trivial⟩, trivial⟩
          · exact vc_fin 100 rfl ⟨rfl, trivial, rfl, rfl⟩
          · exact vc_fin 100 rfl ⟨rfl, trivial, rfl, rfl⟩
          · exact vc_fin 100 rfl ⟨rfl, trivial, rfl, rfl⟩
          · exact vc_fin 100 rfl ⟨rfl, trivial, rfl, rfl⟩
          · exact vc_fin 100 rfl ⟨rfl, trivial, rfl, rfl⟩
          · exact vc_fin 100 rfl ⟨rfl, trivial, rfl, rfl⟩
          · exact vc_arith 100 rfl rfl rfl rfl rfl ((q : Nat) : Int) (wr (by omega) (by omega) (by omega)) (vc_fin 100 rfl ⟨rfl, trivial, rfl, rfl⟩)
          · exact vc_arith 100 rfl rfl rfl rfl rfl ((q : Nat) : Int) (wr (by omega) (by omega) (by omega)) (vc_fin 100 rfl ⟨rfl, trivial, rfl, rfl⟩)
          · exact vc_fin 100 rfl ⟨rfl, trivial, rfl, rfl⟩
          · exact vc_fin 100 rfl ⟨rfl, trivial, rfl, rfl⟩
          · exact vc_arith 100 rfl rfl rfl rfl rfl ((q : Nat) : Int) (wr (by omega) (by omega) (by omega)) (vc_fin 100 rfl ⟨rfl, trivial, rfl, rfl⟩)
          · exact vc_ias 100 rfl rfl rfl rfl rfl rfl (by omega) (by omega) (vc_fin 100 rfl ⟨rfl, trivial, rfl, rfl⟩)
          · exact vc_ldno 0 (p.map C1.v) rfl rfl rfl rfl (seg_row rfl hip w0) (vc_fin 100 rfl ⟨rfl, trivial, rfl, rfl⟩)
          · exact vc_fin 100 rfl ⟨rfl, trivial, rfl, rfl⟩
          · exact vc_fin 100 rfl ⟨rfl, trivial, rfl, rfl⟩
          · exact vc_ias 100 rfl rfl rfl rfl rfl rfl (by omega) (by omega) (vc_fin 100 rfl ⟨rfl, trivial, rfl, rfl⟩)
          · exact vc_ldno 0 (x.map C1.v) rfl rfl rfl rfl (seg_row e0x hix w0) (vc_fin 100 rfl ⟨rfl, trivial, rfl, rfl⟩)
          · exact vc_ias 100 rfl rfl rfl rfl rfl rfl (by omega) (by omega) (vc_fin 100 rfl ⟨rfl, trivial, rfl, rfl⟩)
          · exact vc_stno 0 rfl rfl rfl rfl rfl (lenIs_vals (hx.len _ sp')) (hx.one _ sp') (fit_row (by omega) w0) (vc_fin 100 rfl ⟨rfl, trivial, congrArg (fun l => [(⟨some β, 127, l, true⟩ : Bx)]) (put_row e0x e1x hix w0 (hx.len _ sp'))⟩)
          · exact vc_ias 100 rfl rfl rfl rfl rfl rfl (by omega) (by omega) (vc_fin 100 rfl ⟨rfl, trivial, rfl, rfl⟩)
          · exact vc_stno 0 rfl rfl rfl rfl rfl (lenIs_vals (hx.len _ sx)) (hx.one _ sx) (fit_row (by omega) w1) (vc_fin 100 rfl ⟨rfl, trivial, congrArg (fun l => [(⟨some β, 127, l, true⟩ : Bx)]) (put_row rfl rfl hip w1 (hx.len _ sx))⟩)
        refine vc_arith 100 rfl rfl rfl rfl rfl ((q : Nat) : Int) (wr (by omega) (by omega) (by omega)) ?_
        refine vc_fin 100 rfl ⟨P'.length, [0], by simp, rfl, q, P', p :: Q, rfl, rfl, ?_, rfl, by omega, ?_, ?_, ?_⟩
        · exact ren_oneB ..
        · simpa using hperm2
        · simpa using hsrt2
        · intro y hy
          rcases List.mem_cons.1 hy with rfl | hy
          · exact hlt3
          · exact hq y hy
      · have hge : ¬ ltOf ord x p := of_decide_eq_false h
        obtain ⟨r1, r2⟩ := hres (fun P2 p2 e => by
          have := List.append_inj' e rfl
          have e2 := this.2; simp only [List.cons.injEq, and_true] at e2; subst e2; exact hge)
        refine vc_arith 100 rfl rfl rfl rfl rfl ((a + (k + 1) : Nat) : Int) (wr (by omega) (by omega) (by omega)) ?_
        refine vc_fin 100 rfl ⟨U.length - (k + 1), [0], by omega, rfl, k + 1, P' ++ [p] ++ x :: Q, by omega, rfl, rfl, ?_, rfl, r2, r1, by omega⟩
        rw [eR, show X ++ (P' ++ [p] ++ x :: Q) ++ R = (X ++ P') ++ p :: x :: (Q ++ R) by simp]; exact ren_oneB ..
  · have hkn : U.length ≤ k := by have := of_decide_eq_false h; omega
    refine vc_endO 100 0 rfl rfl rfl _ (concL_vals' _ _) ⟨U0, ?_, hsrt, ?_, rfl⟩
    · rwa [List.take_of_length_le hkn] at hperm
    · rw [List.drop_eq_nil_of_le hkn, List.append_nil]

end Go.Proofs.YtmolncgdehfejaaGreatDoor

/- Contracts: merging where one side is one element. -/
namespace Go.Proofs.YtmolncgdehfejaaGreatDoor
open Go
set_option maxRecDepth 10000

theorem merge113_ct {g : Gh} {β n c f : Nat} {sp cp : List Value} {S : List Value → Prop} {ord : List Value → List Value → Int} (hx : SortX Tryz.prog 13 g f cp S ord) (X V Y : List (List Value)) (u : List Value) (a m b : Nat) (hS : ∀ x ∈ X ++ u :: V ++ Y, S x) (hn : n = (X ++ u :: V ++ Y).length) (hb : n ≤ 1099511627776) (hV : Srtd (ltOf ord) V) (ha : a = X.length) (hm : m = X.length + 1) (hbb : b = X.length + 1 + V.length) :
    CtO Tryz.prog 212 [.slice (some ⟨β, 0, none⟩) n c, .int .i64 ((a : Nat) : Int), .int .i64 ((m : Nat) : Int), .int .i64 ((b : Nat) : Int), .func (.func f) #[] cp.toArray] g β 127 (rowsC (X ++ u :: V ++ Y) sp)
      (fun _ cells g' => ∃ L, L.Perm (u :: V) ∧ Srtd (ltOf ord) L ∧ cells = rowsC (X ++ L ++ Y) sp ∧ g' = g) := by
  have hn' : n = X.length + 1 + V.length + Y.length := by rw [hn]; simp only [List.length_append, List.length_cons]; omega
  have su : S u := hS u (by simp)
  have hSV : ∀ x ∈ V, S x := fun x h => hS x (by simp [h])
  refine enterO ok212 (by simp) [.c (.s 0 0 n c), .c (.v (.int .i64 ((a : Nat) : Int))), .c (.v (.int .i64 ((m : Nat) : Int))), .c (.v (.int .i64 ((b : Nat) : Int))), .c (.v (.func (.func f) #[] cp.toArray))] rfl fun W => ?_
  refine vc_arith 100 rfl rfl rfl rfl rfl 1 (wr (by omega) (by omega) (by omega)) ?_
  refine vc_if 100 rfl rfl rfl (fun _ => ?_) (fun h => by cases h)
  refine vc_loop 100 rfl [0, 1, 4, 10, 11] (fun z vs bs g' => ∃ i j : Nat, z = j - i ∧ vs = [.c (.s 0 0 n c), .c (.v (.int .i64 ((a : Nat) : Int))), .c (.v (.func (.func f) #[] cp.toArray)), .c (.v (.int .i64 ((i : Nat) : Int))), .c (.v (.int .i64 ((j : Nat) : Int)))] ∧
    bs = oneB β 127 (X ++ u :: V ++ Y) sp ∧ g' = g ∧ m ≤ i ∧ i ≤ j ∧ j ≤ b ∧ (∀ w ∈ V.take (i - m), ltOf ord w u) ∧ (∀ w ∈ V.drop (j - m), ¬ ltOf ord w u)) (b - m)
    ⟨m, b, rfl, rfl, rfl, rfl, Nat.le_refl _, by omega, Nat.le_refl _, by simp, by rw [List.drop_eq_nil_of_le (by omega)]; simp⟩ ?_
  rintro z vs bs' g' ⟨i, j, rfl, rfl, rfl, rfl, hi, hij, hj, h1, h2⟩
  have w0 := hx.wide hS
  refine vc_if 100 rfl rfl rfl (fun h => ?_) (fun h => ?_)
  · have hlt : i < j := by have := of_decide_eq_true h; omega
    refine vc_arith 100 rfl rfl rfl rfl rfl ((i + j : Nat) : Int) (wr (by omega) (by omega) (by omega)) ?_
    refine vc_convi 100 rfl rfl rfl ((i + j : Nat) : Int) (wu (by omega) (by omega)) ?_
    refine vc_shift 100 rfl rfl rfl rfl (half_shr (i + j)) (by omega) _ rfl ?_
    refine vc_convi 100 rfl rfl rfl (((i + j) / 2 : Nat) : Int) (wr rfl (by omega) (by omega)) ?_
    generalize hh : (i + j) / 2 = h
    have hlo : i ≤ h := by omega
    have hhi : h < j := by omega
    have hVi : h - m < V.length := by omega
    have hev : X ++ u :: V ++ Y = (X ++ u :: V.take (h - m)) ++ V[h - m] :: (V.drop (h - m + 1) ++ Y) := by
      have : V = V.take (h - m) ++ V[h - m] :: V.drop (h - m + 1) := by rw [← dropk hVi, List.take_append_drop]
      conv => lhs; rw [this]
      simp only [List.append_assoc, List.cons_append, List.nil_append]
    have hvl : h = (X ++ u :: V.take (h - m)).length := by simp only [List.length_append, List.length_cons, List.length_take]; omega
    have sv : S V[h - m] := hSV _ (by simp)
    have hle : ∀ w ∈ V.take (h - m), ¬ ltOf ord V[h - m] w := fun w hw => by
      have e : V = V.take (h - m) ++ V.drop (h - m) := (List.take_append_drop _ _).symm
      rw [e] at hV
      exact hV.parts.2.2 w hw _ (by rw [dropk hVi]; exact List.mem_cons_self)
    have hge : ∀ w ∈ V.drop (h - m + 1), ¬ ltOf ord w V[h - m] := fun w hw => by
      have e : V = V.take (h - m + 1) ++ V.drop (h - m + 1) := (List.take_append_drop _ _).symm
      rw [e] at hV
      exact hV.parts.2.2 _ (by rw [List.take_succ_eq_append_getElem hVi]; exact List.mem_append_right _ (List.mem_singleton.2 rfl)) w hw
    have htk : V.take (h - m + 1) = V.take (h - m) ++ [V[h - m]] := List.take_succ_eq_append_getElem hVi
    have hdk := dropk hVi
    have l0 : (X ++ u :: V ++ Y).length = n := hn.symm
    have hmt : ∀ w ∈ V.take (h - m), S w := fun w hw => hSV w (List.mem_of_mem_take hw)
    have hmd : ∀ w ∈ V.drop (h - m + 1), S w := fun w hw => hSV w (List.mem_of_mem_drop hw)
    generalize hvv : V[h - m] = v at *
    have ev : X ++ u :: V ++ Y = (X ++ u :: V.take (h - m)) ++ v :: (V.drop (h - m + 1) ++ Y) := hev
    have hv : h = (X ++ u :: V.take (h - m)).length := hvl
    have hu0 : X ++ u :: V ++ Y = X ++ u :: (V ++ Y) := by simp
    refine vc_drawF mix 100 rfl [3, 7, 4, 8, 9] (fun i => match i with | 3 => .c (.p 0 (0 + (h) * 13)) | 7 => .c (.p 0 (0 + (a) * 13)) | 4 => .g (v.map C1.v) | 8 => .g (u.map C1.v) | 9 => .c (.v (.int .i64 (ord v u))) | _ => .c .no) rfl rfl ⟨?_, ?_, ?_, ?_, ?_, trivial⟩ ?_
    · exact vc_ias 100 rfl rfl rfl rfl rfl rfl (by omega) (by omega) (vc_fin 100 rfl ⟨rfl, rfl, fun d hd => by injection hd with hd; subst hd; rfl⟩)
    · exact vc_ias 100 rfl rfl rfl rfl rfl rfl (by omega) (by omega) (vc_fin 100 rfl ⟨rfl, rfl, fun d hd => by injection hd with hd; subst hd; rfl⟩)
    · exact vc_ldno 0 (v.map C1.v) rfl rfl rfl rfl (seg_row ev hv w0) (vc_fin 100 rfl ⟨rfl, rfl, fun d hd => by injection hd with hd; subst hd; rfl⟩)
    · exact vc_ldno 0 (u.map C1.v) rfl rfl rfl rfl (seg_row hu0 ha w0) (vc_fin 100 rfl ⟨rfl, rfl, fun d hd => by injection hd with hd; subst hd; rfl⟩)
    · refine vc_callv (first := []) (cap := cp) 100 rfl rfl rfl (concs2 rfl rfl) hx.fn (hx.cmp v u sv su) ?_; rintro _ _ - ⟨rfl, rfl⟩; exact vc_fin 100 rfl ⟨rfl, rfl, fun d hd => by injection hd with hd; subst hd; rfl⟩
    refine vc_if 100 rfl rfl rfl (fun hc => ?_) (fun hc => ?_)
    · have hlt2 : ltOf ord v u := of_decide_eq_true hc
      refine vc_arith 100 rfl rfl rfl rfl rfl ((h + 1 : Nat) : Int) (wr (by omega) (by omega) (by omega)) ?_
      refine vc_fin 100 rfl ⟨j - (h + 1), [0], by omega, rfl, h + 1, j, rfl, rfl, ren_oneB .., rfl, by omega, by omega, hj, fun w hw => ?_, h2⟩
      rw [show h + 1 - m = h - m + 1 by omega, htk] at hw
      rcases List.mem_append.1 hw with hw | hw
      · exact Classical.byContradiction fun hno => hx.ord.trans u w v su (hmt w hw) sv hno (hle w hw) hlt2
      · simp only [List.mem_singleton] at hw; subst hw; exact hlt2
    · have hge2 : ¬ ltOf ord v u := of_decide_eq_false hc
      refine vc_fin 100 rfl ⟨h - i, [0], by omega, rfl, i, h, rfl, rfl, ren_oneB .., rfl, hi, hlo, by omega, h1, fun w hw => ?_⟩
      rw [hdk] at hw
      rcases List.mem_cons.1 hw with rfl | hw
      · exact hge2
      · exact hx.ord.trans u v w su sv (hmd w hw) hge2 (hge w hw)
  · have hij' : i = j := by have := of_decide_eq_false h; omega
    subst hij'
    obtain ⟨V1, V2, rfl, hV1⟩ : ∃ V1 V2, V = V1 ++ V2 ∧ V1.length = i - m := ⟨V.take (i - m), V.drop (i - m), (List.take_append_drop _ _).symm, by rw [List.length_take]; omega⟩
    rw [← hV1, List.take_left] at h1
    rw [← hV1, List.drop_left] at h2
    have hres : (V1 ++ u :: V2).Perm (u :: (V1 ++ V2)) ∧ Srtd (ltOf ord) (V1 ++ u :: V2) := by
      refine ⟨List.perm_middle, ?_⟩
      obtain ⟨p1, p2, p3⟩ := hV.parts
      refine List.pairwise_append.2 ⟨p1, List.pairwise_cons.2 ⟨h2, p2⟩, fun x hx1 y hy => ?_⟩
      rcases List.mem_cons.1 hy with rfl | hy
      · exact hx.ord.asym x y (hSV x (by simp [hx1])) su (h1 x hx1)
      · exact p3 x hx1 y hy
    have hi1 : i = a + 1 + V1.length := by omega
    refine vc_loop 100 rfl [0, 10, 13] (fun z vs bs g2 => ∃ t : Nat, t ≤ V1.length ∧ z = V1.length - t ∧ vs = [.c (.s 0 0 n c), .c (.v (.int .i64 ((i : Nat) : Int))), .c (.v (.int .i64 ((a + t : Nat) : Int)))] ∧
      bs = oneB β 127 (X ++ V1.take t ++ u :: (V1.drop t ++ V2 ++ Y)) sp ∧ g2 = _) V1.length ⟨0, Nat.zero_le _, rfl, rfl, by simp [oneB], rfl⟩ ?_
    rintro z vs bs' g2 ⟨t, ht, rfl, rfl, rfl, rfl⟩
    refine vc_arith 100 rfl rfl rfl rfl rfl ((i - 1 : Nat) : Int) (wr (by omega) (by omega) (by omega)) ?_
    refine vc_if 100 rfl rfl rfl (fun h => ?_) (fun h => ?_)
    · have hlt : t < V1.length := by have := of_decide_eq_true h; omega
      have e0 : X ++ V1.take t ++ u :: (V1.drop t ++ V2 ++ Y) = (X ++ V1.take t) ++ u :: V1[t] :: (V1.drop (t + 1) ++ V2 ++ Y) := by rw [dropk hlt]; simp only [List.append_assoc, List.cons_append, List.nil_append]
      have e9 : X ++ V1.take (t + 1) ++ u :: (V1.drop (t + 1) ++ V2 ++ Y) = (X ++ V1.take t) ++ V1[t] :: u :: (V1.drop (t + 1) ++ V2 ++ Y) := by rw [List.take_succ_eq_append_getElem hlt]; simp only [List.append_assoc, List.cons_append, List.nil_append]
      have sv : S V1[t] := hSV _ (by simp)
      have hP : ∀ x ∈ X ++ V1.take t, S x := fun x hx1 => by
        rcases List.mem_append.1 hx1 with h | h
        · exact hS x (by simp [h])
        · exact hSV x (by have := List.mem_of_mem_take h; simp [this])
      have hR : ∀ x ∈ V1.drop (t + 1) ++ V2 ++ Y, S x := fun x hx1 => by
        rcases List.mem_append.1 hx1 with h | h
        · rcases List.mem_append.1 h with h | h
          · exact hSV x (by have := List.mem_of_mem_drop h; simp [this])
          · exact hSV x (by simp [h])
        · exact hS x (by simp [h])
      have lP : (X ++ V1.take t).length = a + t := by simp only [List.length_append, List.length_take]; omega
      have lR : (V1.drop (t + 1) ++ V2 ++ Y).length + a + t + 2 = n := by simp only [List.length_append, List.length_drop] at hn' ⊢; omega
      rw [e0]
      generalize V1[t] = v at *
      generalize X ++ V1.take t = P at *
      generalize hRR : V1.drop (t + 1) ++ V2 ++ Y = R at *
      generalize hkk : a + t = k at *
      have hall : ∀ y z : List Value, S y → S z → Wide 13 (P ++ y :: z :: R) := fun y z hy hz => hx.wide fun w hw => by
        simp only [List.mem_append, List.mem_cons] at hw
        rcases hw with hw | rfl | rfl | hw
        · exact hP w hw
        · exact hy
        · exact hz
        · exact hR w hw
      have w0 := hall u v su sv
      have w1 := hall v v sv sv
      have hk : k = P.length := lP.symm
      have hkv : k + 1 = (P ++ [u]).length := by simp only [List.length_append, List.length_singleton]; omega
      have hkv' : k + 1 = (P ++ [v]).length := by simp only [List.length_append, List.length_singleton]; omega
      have e0v : P ++ u :: v :: R = (P ++ [u]) ++ v :: R := by simp
      have e1v : P ++ v :: v :: R = (P ++ [v]) ++ v :: R := by simp
      have e2v : P ++ v :: u :: R = (P ++ [v]) ++ u :: R := by simp
      have l0 : (P ++ u :: v :: R).length = n := by simp only [List.length_append, List.length_cons]; omega
      have l1 : (P ++ v :: v :: R).length = n := by simp only [List.length_append, List.length_cons]; omega
      refine vc_drawT mix 100 rfl [15, 17] 2 [[0], [0], [0, 1], [0, 1], [0, 1], [0], [0], [0], [0], [0], [0], [0], [0], [0], [0], [0], [1], [1]] (fun c => match c with | 0 => oneB β 127 (P ++ u :: v :: R) sp | 1 => oneB β 127 (P ++ v :: v :: R) sp | _ => oneB β 127 (P ++ v :: u :: R) sp) (fun i => match i with | 0 => .c (.s 0 0 n c) | 1 => .c (.v (.int .i64 ((k : Nat) : Int))) | 2 => .c (.s 0 0 n c) | 3 => .c (.v (.int .i64 ((k : Nat) : Int))) | 4 => .c (.v (.int .i64 ((k + 1 : Nat) : Int))) | 5 => .c (.s 0 0 n c) | 6 => .c (.v (.int .i64 ((k : Nat) : Int))) | 7 => .c (.v (.int .i64 ((k + 1 : Nat) : Int))) | 8 => .c (.p 0 (0 + (k + 1) * 13)) | 9 => .g (v.map C1.v) | 10 => .c (.s 0 0 n c) | 11 => .c (.v (.int .i64 ((k : Nat) : Int))) | 12 => .c (.p 0 (0 + (k) * 13)) | 13 => .g (u.map C1.v) | 14 => .c (.p 0 (0 + (k) * 13)) | 15 => .c .no | 16 => .c (.p 0 (0 + (k + 1) * 13)) | 17 => .c .no | _ => .c .no) rfl (fun c => ?_) (by kernel_rfl) ?_ ?_
      · match c with | 0 => exact later_oneB _ _ _ _ _ _ | 1 => exact later_oneB _ _ _ _ _ _ | _ + 2 => exact later_oneB _ _ _ _ _ _
      · refine ⟨⟨?_, trivial⟩, ⟨?_, trivial⟩, ⟨?_, ?_, trivial⟩, ⟨?_, ?_, trivial⟩, ⟨?_, ?_, trivial⟩, ⟨?_, trivial⟩, ⟨?_, trivial⟩, ⟨?_, trivial⟩, ⟨?_, trivial⟩, ⟨?_, trivial⟩, ⟨?_, trivial⟩, ⟨?_, trivial⟩, ⟨?_, trivial⟩, ⟨?_, trivial⟩, ⟨?_, trivial⟩, ⟨?_, trivial⟩, ⟨?_, trivial⟩, ⟨?_, trivial⟩, trivial⟩
        · exact vc_fin 100 rfl ⟨rfl, trivial, rfl, rfl⟩
        · exact vc_fin 100 rfl ⟨rfl, trivial, rfl, rfl⟩
        · exact vc_fin 100 rfl ⟨rfl, trivial, rfl, rfl⟩
        · exact vc_fin 100 rfl ⟨rfl, trivial, rfl, rfl⟩
        · exact vc_fin 100 rfl ⟨rfl, trivial, rfl, rfl⟩
        · exact vc_fin 100 rfl ⟨rfl, trivial, rfl, rfl⟩
        · exact vc_arith 100 rfl rfl rfl rfl rfl ((k + 1 : Nat) : Int) (wr (by omega) (by omega) (by omega)) (vc_fin 100 rfl ⟨rfl, trivial, rfl, rfl⟩)
        · exact vc_arith 100 rfl rfl rfl rfl rfl ((k + 1 : Nat) : Int) (wr (by omega) (by omega) (by omega)) (vc_fin 100 rfl ⟨rfl, trivial, rfl, rfl⟩)
        · exact vc_fin 100 rfl ⟨rfl, trivial, rfl, rfl⟩
        · exact vc_fin 100 rfl ⟨rfl, trivial, rfl, rfl⟩
        · exact vc_arith 100 rfl rfl rfl rfl rfl ((k + 1 : Nat) : Int) (wr (by omega) (by omega) (by omega)) (vc_fin 100 rfl ⟨rfl, trivial, rfl, rfl⟩)
        · exact vc_ias 100 rfl rfl rfl rfl rfl rfl (by omega) (by omega) (vc_fin 100 rfl ⟨rfl, trivial, rfl, rfl⟩)
        · exact vc_ldno 0 (v.map C1.v) rfl rfl rfl rfl (seg_row e0v hkv w0) (vc_fin 100 rfl ⟨rfl, trivial, rfl, rfl⟩)
        · exact vc_fin 100 rfl ⟨rfl, trivial, rfl, rfl⟩
        · exact vc_fin 100 rfl ⟨rfl, trivial, rfl, rfl⟩
        · exact vc_ias 100 rfl rfl rfl rfl rfl rfl (by omega) (by omega) (vc_fin 100 rfl ⟨rfl, trivial, rfl, rfl⟩)
        · exact vc_ldno 0 (u.map C1.v) rfl rfl rfl rfl (seg_row rfl hk w0) (vc_fin 100 rfl ⟨rfl, trivial, rfl, rfl⟩)
        · exact vc_ias 100 rfl rfl rfl rfl rfl rfl (by omega) (by omega) (vc_fin 100 rfl ⟨rfl, trivial, rfl, rfl⟩)
        · exact vc_stno 0 rfl rfl rfl rfl rfl (lenIs_vals (hx.len _ sv)) (hx.one _ sv) (fit_row (by omega) w0) (vc_fin 100 rfl ⟨rfl, trivial, congrArg (fun l => [(⟨some β, 127, l, true⟩ : Bx)]) (put_row rfl rfl hk w0 (hx.len _ sv))⟩)
        · exact vc_ias 100 rfl rfl rfl rfl rfl rfl (by omega) (by omega) (vc_fin 100 rfl ⟨rfl, trivial, rfl, rfl⟩)
        · exact vc_stno 0 rfl rfl rfl rfl rfl (lenIs_vals (hx.len _ su)) (hx.one _ su) (fit_row (by omega) w1) (vc_fin 100 rfl ⟨rfl, trivial, congrArg (fun l => [(⟨some β, 127, l, true⟩ : Bx)]) (put_row e1v e2v hkv' w1 (hx.len _ su))⟩)
      refine vc_arith 100 rfl rfl rfl rfl rfl ((a + (t + 1) : Nat) : Int) (wr (by omega) (by omega) (by omega)) ?_
      refine vc_fin 100 rfl ⟨V1.length - (t + 1), [0], by omega, rfl, t + 1, by omega, rfl, rfl, ?_, rfl⟩
      subst hRR
      rw [e9]; exact ren_oneB ..
    · have htn : t = V1.length := by have := of_decide_eq_false h; omega
      subst htn
      refine vc_retO 100 0 rfl rfl rfl _ (concL_vals' _ _) ⟨V1 ++ u :: V2, hres.1, hres.2, ?_, rfl⟩
      rw [List.take_length, List.drop_length]; simp
theorem merge213_ct {g : Gh} {β n c f : Nat} {sp cp : List Value} {S : List Value → Prop} {ord : List Value → List Value → Int} (hx : SortX Tryz.prog 13 g f cp S ord) (X U Y : List (List Value)) (v : List Value) (a m b : Nat) (hS : ∀ x ∈ X ++ U ++ v :: Y, S x) (hn : n = (X ++ U ++ v :: Y).length) (hb : n ≤ 1099511627776) (hU : Srtd (ltOf ord) U) (ha : a = X.length) (hm : m = X.length + U.length) (hbb : b = X.length + U.length + 1) (hU1 : 1 < U.length) :
    CtO Tryz.prog 212 [.slice (some ⟨β, 0, none⟩) n c, .int .i64 ((a : Nat) : Int), .int .i64 ((m : Nat) : Int), .int .i64 ((b : Nat) : Int), .func (.func f) #[] cp.toArray] g β 127 (rowsC (X ++ U ++ v :: Y) sp)
      (fun _ cells g' => ∃ L, L.Perm (U ++ [v]) ∧ Srtd (ltOf ord) L ∧ cells = rowsC (X ++ L ++ Y) sp ∧ g' = g) := by
  have hn' : n = X.length + U.length + 1 + Y.length := by rw [hn]; simp only [List.length_append, List.length_cons]; omega
  have sv : S v := hS v (by simp)
  have hSU : ∀ x ∈ U, S x := fun x h => hS x (by simp [h])
  refine enterO ok212 (by simp) [.c (.s 0 0 n c), .c (.v (.int .i64 ((a : Nat) : Int))), .c (.v (.int .i64 ((m : Nat) : Int))), .c (.v (.int .i64 ((b : Nat) : Int))), .c (.v (.func (.func f) #[] cp.toArray))] rfl fun W => ?_
  refine vc_arith 100 rfl rfl rfl rfl rfl ((U.length : Nat) : Int) (wr (by omega) (by omega) (by omega)) ?_
  refine vc_if 100 rfl rfl rfl (fun h => absurd (eq_of_beq h) (by omega)) (fun _ => ?_)
  refine vc_arith 100 rfl rfl rfl rfl rfl 1 (wr (by omega) (by omega) (by omega)) ?_
  refine vc_if 100 rfl rfl rfl (fun _ => ?_) (fun h => by cases h)
  refine vc_loop 100 rfl [0, 2, 4, 14, 15] (fun z vs bs g' => ∃ i j : Nat, z = j - i ∧ vs = [.c (.s 0 0 n c), .c (.v (.int .i64 ((m : Nat) : Int))), .c (.v (.func (.func f) #[] cp.toArray)), .c (.v (.int .i64 ((i : Nat) : Int))), .c (.v (.int .i64 ((j : Nat) : Int)))] ∧
    bs = oneB β 127 (X ++ U ++ v :: Y) sp ∧ g' = g ∧ a ≤ i ∧ i ≤ j ∧ j ≤ m ∧ (∀ w ∈ U.take (i - a), ¬ ltOf ord v w) ∧ (∀ w ∈ U.drop (j - a), ltOf ord v w)) (m - a)
    ⟨a, m, rfl, rfl, rfl, rfl, Nat.le_refl _, by omega, Nat.le_refl _, by simp, by rw [List.drop_eq_nil_of_le (by omega)]; simp⟩ ?_
  rintro z vs bs' g' ⟨i, j, rfl, rfl, rfl, rfl, hi, hij, hj, h1, h2⟩
  have w0 := hx.wide hS
  refine vc_if 100 rfl rfl rfl (fun h => ?_) (fun h => ?_)
  · have hlt : i < j := by have := of_decide_eq_true h; omega
    refine vc_arith 100 rfl rfl rfl rfl rfl ((i + j : Nat) : Int) (wr (by omega) (by omega) (by omega)) ?_
    refine vc_convi 100 rfl rfl rfl ((i + j : Nat) : Int) (wu (by omega) (by omega)) ?_
    refine vc_shift 100 rfl rfl rfl rfl (half_shr (i + j)) (by omega) _ rfl ?_
    refine vc_convi 100 rfl rfl rfl (((i + j) / 2 : Nat) : Int) (wr rfl (by omega) (by omega)) ?_
    generalize hh : (i + j) / 2 = h
    have hlo : i ≤ h := by omega
    have hhi : h < j := by omega
    have hUi : h - a < U.length := by omega
    have hev : X ++ U ++ v :: Y = (X ++ U.take (h - a)) ++ U[h - a] :: (U.drop (h - a + 1) ++ v :: Y) := by
      have : U = U.take (h - a) ++ U[h - a] :: U.drop (h - a + 1) := by rw [← dropk hUi, List.take_append_drop]
      conv => lhs; rw [this]
      simp only [List.append_assoc, List.cons_append, List.nil_append]
    have hul : h = (X ++ U.take (h - a)).length := by simp only [List.length_append, List.length_take]; omega
    have su : S U[h - a] := hSU _ (by simp)
    have hle : ∀ w ∈ U.take (h - a), ¬ ltOf ord U[h - a] w := fun w hw => by
      have e : U = U.take (h - a) ++ U.drop (h - a) := (List.take_append_drop _ _).symm
      rw [e] at hU
      exact hU.parts.2.2 w hw _ (by rw [dropk hUi]; exact List.mem_cons_self)
    have hge : ∀ w ∈ U.drop (h - a + 1), ¬ ltOf ord w U[h - a] := fun w hw => by
      have e : U = U.take (h - a + 1) ++ U.drop (h - a + 1) := (List.take_append_drop _ _).symm
      rw [e] at hU
      exact hU.parts.2.2 _ (by rw [List.take_succ_eq_append_getElem hUi]; exact List.mem_append_right _ (List.mem_singleton.2 rfl)) w hw
    have htk : U.take (h - a + 1) = U.take (h - a) ++ [U[h - a]] := List.take_succ_eq_append_getElem hUi
    have hdk := dropk hUi
    have l0 : (X ++ U ++ v :: Y).length = n := hn.symm
    have hmt : ∀ w ∈ U.take (h - a), S w := fun w hw => hSU w (List.mem_of_mem_take hw)
    have hmd : ∀ w ∈ U.drop (h - a + 1), S w := fun w hw => hSU w (List.mem_of_mem_drop hw)
    generalize huu : U[h - a] = u at *
    have eu : X ++ U ++ v :: Y = (X ++ U.take (h - a)) ++ u :: (U.drop (h - a + 1) ++ v :: Y) := hev
    have hu : h = (X ++ U.take (h - a)).length := hul
    have ev : X ++ U ++ v :: Y = (X ++ U) ++ v :: Y := rfl
    have hm' : m = (X ++ U).length := by simp only [List.length_append]; omega
    refine vc_drawF mix 100 rfl [3, 7, 4, 8, 9] (fun i => match i with | 3 => .c (.p 0 (0 + (m) * 13)) | 7 => .c (.p 0 (0 + (h) * 13)) | 4 => .g (v.map C1.v) | 8 => .g (u.map C1.v) | 9 => .c (.v (.int .i64 (ord v u))) | _ => .c .no) rfl rfl ⟨?_, ?_, ?_, ?_, ?_, trivial⟩ ?_
    · exact vc_ias 100 rfl rfl rfl rfl rfl rfl (by omega) (by omega) (vc_fin 100 rfl ⟨rfl, rfl, fun d hd => by injection hd with hd; subst hd; rfl⟩)
    · exact vc_ias 100 rfl rfl rfl rfl rfl rfl (by omega) (by omega) (vc_fin 100 rfl ⟨rfl, rfl, fun d hd => by injection hd with hd; subst hd; rfl⟩)
    · exact vc_ldno 0 (v.map C1.v) rfl rfl rfl rfl (seg_row ev hm' w0) (vc_fin 100 rfl ⟨rfl, rfl, fun d hd => by injection hd with hd; subst hd; rfl⟩)
    · exact vc_ldno 0 (u.map C1.v) rfl rfl rfl rfl (seg_row eu hu w0) (vc_fin 100 rfl ⟨rfl, rfl, fun d hd => by injection hd with hd; subst hd; rfl⟩)
    · refine vc_callv (first := []) (cap := cp) 100 rfl rfl rfl (concs2 rfl rfl) hx.fn (hx.cmp v u sv su) ?_; rintro _ _ - ⟨rfl, rfl⟩; exact vc_fin 100 rfl ⟨rfl, rfl, fun d hd => by injection hd with hd; subst hd; rfl⟩
    refine vc_if 100 rfl rfl rfl (fun hc => ?_) (fun hc => ?_)
    · have hge2 : ¬ ltOf ord v u := by simpa [ltOf] using hc
      refine vc_arith 100 rfl rfl rfl rfl rfl ((h + 1 : Nat) : Int) (wr (by omega) (by omega) (by omega)) ?_
      refine vc_fin 100 rfl ⟨j - (h + 1), [0], by omega, rfl, h + 1, j, rfl, rfl, ren_oneB .., rfl, by omega, by omega, hj, fun w hw => ?_, h2⟩
      rw [show h + 1 - a = h - a + 1 by omega, htk] at hw
      rcases List.mem_append.1 hw with hw | hw
      · exact hx.ord.trans w u v (hmt w hw) su sv (hle w hw) hge2
      · simp only [List.mem_singleton] at hw; subst hw; exact hge2
    · have hlt2 : ltOf ord v u := by simpa [ltOf] using hc
      refine vc_fin 100 rfl ⟨h - i, [0], by omega, rfl, i, h, rfl, rfl, ren_oneB .., rfl, hi, hlo, by omega, h1, fun w hw => ?_⟩
      rw [hdk] at hw
      rcases List.mem_cons.1 hw with rfl | hw
      · exact hlt2
      · exact Classical.byContradiction fun hno => hx.ord.trans u w v su (hmd w hw) sv (hge w hw) hno hlt2
  · have hij' : i = j := by have := of_decide_eq_false h; omega
    subst hij'
    obtain ⟨U1, U2, rfl, hU1l⟩ : ∃ U1 U2, U = U1 ++ U2 ∧ U1.length = i - a := ⟨U.take (i - a), U.drop (i - a), (List.take_append_drop _ _).symm, by rw [List.length_take]; omega⟩
    rw [← hU1l, List.take_left] at h1
    rw [← hU1l, List.drop_left] at h2
    have hres : (U1 ++ v :: U2).Perm (U1 ++ U2 ++ [v]) ∧ Srtd (ltOf ord) (U1 ++ v :: U2) := by
      refine ⟨List.perm_middle.trans (List.perm_append_comm (l₁ := [v])), ?_⟩
      obtain ⟨p1, p2, p3⟩ := hU.parts
      refine List.pairwise_append.2 ⟨p1, List.pairwise_cons.2 ⟨fun y hy => hx.ord.asym v y sv (hSU y (by simp [hy])) (h2 y hy), p2⟩, fun x hx1 y hy => ?_⟩
      rcases List.mem_cons.1 hy with rfl | hy
      · exact h1 x hx1
      · exact p3 x hx1 y hy
    have hUl : m = i + U2.length := by rw [List.length_append] at hm; omega
    refine vc_loop 100 rfl [0, 14, 17] (fun z vs bs g2 => ∃ (k : Nat) (A B : List (List Value)), z = A.length ∧ vs = [.c (.s 0 0 n c), .c (.v (.int .i64 ((i : Nat) : Int))), .c (.v (.int .i64 ((k : Nat) : Int)))] ∧
      bs = oneB β 127 (X ++ U1 ++ A ++ v :: (B ++ Y)) sp ∧ g2 = _ ∧ A ++ B = U2 ∧ k = i + A.length) U2.length ⟨m, U2, [], rfl, rfl, by simp [oneB], rfl, by simp, hUl⟩ ?_
    rintro z vs bs' g2 ⟨k, A, B, rfl, rfl, rfl, rfl, hAB, hk⟩
    subst hAB
    refine vc_if 100 rfl rfl rfl (fun h => ?_) (fun h => ?_)
    · have hlt : i < k := by have := of_decide_eq_true h; omega
      rcases List.eq_nil_or_concat A with rfl | ⟨A', p, rfl⟩
      · simp only [List.length_nil] at hk; omega
      rw [List.concat_eq_append] at *
      generalize hqq : i + A'.length = q
      have hkq : k = q + 1 := by rw [hk, List.length_append, List.length_singleton]; omega
      subst hkq
      have sp' : S p := hSU p (by simp)
      have hP : ∀ x ∈ X ++ U1 ++ A', S x := fun x hx1 => by
        simp only [List.mem_append] at hx1
        rcases hx1 with (h | h) | h
        · exact hS x (by simp [h])
        · exact hSU x (by simp [h])
        · exact hSU x (by simp [h])
      have hR : ∀ x ∈ B ++ Y, S x := fun x hx1 => by
        rcases List.mem_append.1 hx1 with h | h
        · exact hSU x (by simp [h])
        · exact hS x (by simp [h])
      have lP : (X ++ U1 ++ A').length = q := by simp only [List.length_append]; omega
      have lR : (B ++ Y).length + q + 2 = n := by simp only [List.length_append, List.length_singleton] at hn' ⊢; omega
      rw [show X ++ U1 ++ (A' ++ [p]) ++ v :: (B ++ Y) = (X ++ U1 ++ A') ++ p :: v :: (B ++ Y) by simp]
      have e9 : X ++ U1 ++ A' ++ v :: (p :: B ++ Y) = X ++ U1 ++ A' ++ v :: p :: (B ++ Y) := by simp
      generalize hPP : X ++ U1 ++ A' = P at *
      generalize hRR : B ++ Y = R at *
      have hall : ∀ y z : List Value, S y → S z → Wide 13 (P ++ y :: z :: R) := fun y z hy hz => hx.wide fun w hw => by
        simp only [List.mem_append, List.mem_cons] at hw
        rcases hw with hw | rfl | rfl | hw
        · exact hP w hw
        · exact hy
        · exact hz
        · exact hR w hw
      have w0 := hall p v sp' sv
      have w1 := hall p p sp' sp'
      have hk : q = P.length := lP.symm
      have hkv : q + 1 = (P ++ [p]).length := by simp only [List.length_append, List.length_singleton]; omega
      have e0v : P ++ p :: v :: R = (P ++ [p]) ++ v :: R := by simp
      have e1v : P ++ p :: p :: R = (P ++ [p]) ++ p :: R := by simp
      have l0 : (P ++ p :: v :: R).length = n := by simp only [List.length_append, List.length_cons]; omega
      have l1 : (P ++ p :: p :: R).length = n := by simp only [List.length_append, List.length_cons]; omega
      refine vc_drawT mix 100 rfl [15, 17] 2 [[0], [0], [0, 1], [0, 1], [0, 1], [0], [0], [0], [0], [0], [0], [0], [0], [0], [0], [0], [1], [1]] (fun c => match c with | 0 => oneB β 127 (P ++ p :: v :: R) sp | 1 => oneB β 127 (P ++ p :: p :: R) sp | _ => oneB β 127 (P ++ v :: p :: R) sp) (fun i => match i with | 0 => .c (.s 0 0 n c) | 1 => .c (.v (.int .i64 ((q + 1 : Nat) : Int))) | 2 => .c (.s 0 0 n c) | 3 => .c (.v (.int .i64 ((q + 1 : Nat) : Int))) | 4 => .c (.v (.int .i64 ((q : Nat) : Int))) | 5 => .c (.s 0 0 n c) | 6 => .c (.v (.int .i64 ((q + 1 : Nat) : Int))) | 7 => .c (.v (.int .i64 ((q : Nat) : Int))) | 8 => .c (.p 0 (0 + (q) * 13)) | 9 => .g (p.map C1.v) | 10 => .c (.s 0 0 n c) | 11 => .c (.v (.int .i64 ((q + 1 : Nat) : Int))) | 12 => .c (.p 0 (0 + (q + 1) * 13)) | 13 => .g (v.map C1.v) | 14 => .c (.p 0 (0 + (q + 1) * 13)) | 15 => .c .no | 16 => .c (.p 0 (0 + (q) * 13)) | 17 => .c .no | _ => .c .no) rfl (fun c => ?_) (by kernel_rfl) ?_ ?_
      · match c with | 0 => exact later_oneB _ _ _ _ _ _ | 1 => exact later_oneB _ _ _ _ _ _ | _ + 2 => exact later_oneB _ _ _ _ _ _
      · refine ⟨⟨?_, trivial⟩, ⟨?_, trivial⟩, ⟨?_, ?_, trivial⟩, ⟨?_, ?_, trivial⟩, ⟨?_, ?_, trivial⟩, ⟨?_, trivial⟩, ⟨?_, trivial⟩, ⟨?_, trivial⟩, ⟨?_, trivial⟩, ⟨?_, trivial⟩, ⟨?_, trivial⟩, ⟨?_, trivial⟩, ⟨?_, trivial⟩, ⟨?_, trivial⟩, ⟨?_, trivial⟩, ⟨?_, trivial⟩, ⟨?_, trivial⟩, ⟨?_, trivial⟩, trivial⟩
        · exact vc_fin 100 rfl ⟨rfl, trivial, rfl, rfl⟩
        · exact vc_fin 100 rfl ⟨rfl, trivial, rfl, rfl⟩
        · exact vc_fin 100 rfl ⟨rfl, trivial, rfl, rfl⟩
        · exact vc_fin 100 rfl ⟨rfl, trivial, rfl, rfl⟩
        · exact vc_fin 100 rfl ⟨rfl, trivial, rfl, rfl⟩
        · exact vc_fin 100 rfl ⟨rfl, trivial, rfl, rfl⟩
        · exact vc_arith 100 rfl rfl rfl rfl rfl ((q : Nat) : Int) (wr (by omega) (by omega) (by omega)) (vc_fin 100 rfl ⟨rfl, trivial, rfl, rfl⟩)
        · exact vc_arith 100 rfl rfl rfl rfl rfl ((q : Nat) : Int) (wr (by omega) (by omega) (by omega)) (vc_fin 100 rfl ⟨rfl, trivial, rfl, rfl⟩)
        · exact vc_fin 100 rfl ⟨rfl, trivial, rfl, rfl⟩
        · exact vc_fin 100 rfl ⟨rfl, trivial, rfl, rfl⟩
        · exact vc_arith 100 rfl rfl rfl rfl rfl ((q : Nat) : Int) (wr (by omega) (by omega) (by omega)) (vc_fin 100 rfl ⟨rfl, trivial, rfl, rfl⟩)
        · exact vc_ias 100 rfl rfl rfl rfl rfl rfl (by omega) (by omega) (vc_fin 100 rfl ⟨rfl, trivial, rfl, rfl⟩)
        · exact vc_ldno 0 (p.map C1.v) rfl rfl rfl rfl (seg_row rfl hk w0) (vc_fin 100 rfl ⟨rfl, trivial, rfl, rfl⟩)
        · exact vc_fin 100 rfl ⟨rfl, trivial, rfl, rfl⟩
        · exact vc_fin 100 rfl ⟨rfl, trivial, rfl, rfl⟩
        · exact vc_ias 100 rfl rfl rfl rfl rfl rfl (by omega) (by omega) (vc_fin 100 rfl ⟨rfl, trivial, rfl, rfl⟩)
        · exact vc_ldno 0 (v.map C1.v) rfl rfl rfl rfl (seg_row e0v hkv w0) (vc_fin 100 rfl ⟨rfl, trivial, rfl, rfl⟩)
        · exact vc_ias 100 rfl rfl rfl rfl rfl rfl (by omega) (by omega) (vc_fin 100 rfl ⟨rfl, trivial, rfl, rfl⟩)
        · exact vc_stno 0 rfl rfl rfl rfl rfl (lenIs_vals (hx.len _ sp')) (hx.one _ sp') (fit_row (by omega) w0) (vc_fin 100 rfl ⟨rfl, trivial, congrArg (fun l => [(⟨some β, 127, l, true⟩ : Bx)]) (put_row e0v e1v hkv w0 (hx.len _ sp'))⟩)
        · exact vc_ias 100 rfl rfl rfl rfl rfl rfl (by omega) (by omega) (vc_fin 100 rfl ⟨rfl, trivial, rfl, rfl⟩)
        · exact vc_stno 0 rfl rfl rfl rfl rfl (lenIs_vals (hx.len _ sv)) (hx.one _ sv) (fit_row (by omega) w1) (vc_fin 100 rfl ⟨rfl, trivial, congrArg (fun l => [(⟨some β, 127, l, true⟩ : Bx)]) (put_row rfl rfl hk w1 (hx.len _ sv))⟩)
      refine vc_arith 100 rfl rfl rfl rfl rfl ((q : Nat) : Int) (wr (by omega) (by omega) (by omega)) ?_
      refine vc_fin 100 rfl ⟨A'.length, [0], by simp, rfl, q, A', p :: B, rfl, rfl, ?_, rfl, by simp, hqq.symm⟩
      subst hRR; subst hPP
      rw [e9]; exact ren_oneB ..
    · have hA : A = [] := by
        have := of_decide_eq_false h
        exact List.eq_nil_of_length_eq_zero (by omega)
      subst hA
      refine vc_retO 100 0 rfl rfl rfl _ (concL_vals' _ _) ⟨U1 ++ v :: B, by simpa using hres.1, by simpa using hres.2, ?_, rfl⟩
      simp

end Go.Proofs.YtmolncgdehfejaaGreatDoor

/- Contracts: merging two sorted pieces. -/
namespace Go.Proofs.YtmolncgdehfejaaGreatDoor
open Go
set_option maxRecDepth 10000

set_option maxHeartbeats 2000000 in
theorem merge13_ct {g : Gh} {β n c f : Nat} {sp cp : List Value} {S : List Value → Prop} {ord : List Value → List Value → Int} (hx : SortX Tryz.prog 13 g f cp S ord) (hb : n ≤ 1099511627776) : ∀ (N : Nat) (X U V Y : List (List Value)) (a m b : Nat), U.length + V.length ≤ N → (∀ x ∈ X ++ U ++ V ++ Y, S x) → n = (X ++ U ++ V ++ Y).length →
    Srtd (ltOf ord) U → Srtd (ltOf ord) V → 0 < U.length → 0 < V.length → a = X.length → m = X.length + U.length → b = X.length + U.length + V.length →
    CtO Tryz.prog 212 [.slice (some ⟨β, 0, none⟩) n c, .int .i64 ((a : Nat) : Int), .int .i64 ((m : Nat) : Int), .int .i64 ((b : Nat) : Int), .func (.func f) #[] cp.toArray] g β 127 (rowsC (X ++ U ++ V ++ Y) sp)
      (fun _ cells g' => ∃ L, L.Perm (U ++ V) ∧ Srtd (ltOf ord) L ∧ cells = rowsC (X ++ L ++ Y) sp ∧ g' = g) := by
  intro N
  induction N with
  | zero => intro X U V Y a m b h1 _ _ _ _ h2; omega
  | succ N ih =>
  intro X U V Y a m b hN hS hn hU hV hU0 hV0 ha hm hbb
  have hn' : n = X.length + U.length + V.length + Y.length := by rw [hn]; simp only [List.length_append]
  rcases Nat.lt_or_ge 1 U.length with hU1 | hU1
  rotate_left
  · cases U with
    | nil => simp at hU0
    | cons u r =>
      have hr : r = [] := List.eq_nil_of_length_eq_zero (by simp only [List.length_cons] at hU1; omega)
      subst hr
      have e : X ++ [u] ++ V ++ Y = X ++ u :: V ++ Y := by simp
      rw [e] at hS hn ⊢
      exact merge113_ct hx X V Y u a m b hS hn hb hV ha (by simpa using hm) (by simpa using hbb)
  rcases Nat.lt_or_ge 1 V.length with hV1 | hV1
  rotate_left
  · cases V with
    | nil => simp at hV0
    | cons v r =>
      have hr : r = [] := List.eq_nil_of_length_eq_zero (by simp only [List.length_cons] at hV1; omega)
      subst hr
      have e : X ++ U ++ [v] ++ Y = X ++ U ++ v :: Y := by simp
      rw [e] at hS hn ⊢
      exact merge213_ct hx X U Y v a m b hS hn hb hU ha hm (by simpa using hbb) hU1
  refine enterO ok212 (by simp) [.c (.s 0 0 n c), .c (.v (.int .i64 ((a : Nat) : Int))), .c (.v (.int .i64 ((m : Nat) : Int))), .c (.v (.int .i64 ((b : Nat) : Int))), .c (.v (.func (.func f) #[] cp.toArray))] rfl fun W => ?_
  refine vc_arith 100 rfl rfl rfl rfl rfl ((U.length : Nat) : Int) (wr (by omega) (by omega) (by omega)) ?_
  refine vc_if 100 rfl rfl rfl (fun h => absurd (eq_of_beq h) (by omega)) (fun _ => ?_)
  refine vc_arith 100 rfl rfl rfl rfl rfl ((V.length : Nat) : Int) (wr (by omega) (by omega) (by omega)) ?_
  refine vc_if 100 rfl rfl rfl (fun h => absurd (eq_of_beq h) (by omega)) (fun _ => ?_)
  refine vc_arith 100 rfl rfl rfl rfl rfl ((a + b : Nat) : Int) (wr (by omega) (by omega) (by omega)) ?_
  refine vc_convi 100 rfl rfl rfl ((a + b : Nat) : Int) (wu (by omega) (by omega)) ?_
  refine vc_shift 100 rfl rfl rfl rfl (half_shr (a + b)) (by omega) _ rfl ?_
  refine vc_convi 100 rfl rfl rfl (((a + b) / 2 : Nat) : Int) (wr rfl (by omega) (by omega)) ?_
  generalize hmid : (a + b) / 2 = d
  have hd1 : a + 2 ≤ d := by omega
  have hd2 : d + 2 ≤ b := by omega
  refine vc_arith 100 rfl rfl rfl rfl rfl ((d + m : Nat) : Int) (wr (by omega) (by omega) (by omega)) ?_
  generalize he : d + m = e
  refine adv_ok 8 ?_
  refine vc_cut (fun env' bs' g1 => ∃ s0 r0 : Nat, [0, 1, 2, 3, 4, 18, 19, 20, 21].map env' = [.c (.s 0 0 n c), .c (.v (.int .i64 ((a : Nat) : Int))), .c (.v (.int .i64 ((m : Nat) : Int))), .c (.v (.int .i64 ((b : Nat) : Int))), .c (.v (.func (.func f) #[] cp.toArray)), .c (.v (.int .i64 ((d : Nat) : Int))), .c (.v (.int .i64 ((e : Nat) : Int))), .c (.v (.int .i64 ((s0 : Nat) : Int))), .c (.v (.int .i64 ((r0 : Nat) : Int)))] ∧
    bs' = oneB β 127 (X ++ U ++ V ++ Y) sp ∧ g1 = g ∧ ((d < m ∧ s0 + b = e ∧ r0 = d) ∨ (m ≤ d ∧ s0 = a ∧ r0 = m))) ?_ (fun _ _ => trivial) ?_
  · refine vc_if 100 rfl rfl rfl (fun h => ?_) (fun h => ?_)
    · have hlt : d < m := by have := of_decide_eq_true h; omega
      refine vc_arith 100 rfl rfl rfl rfl rfl ((e - b : Nat) : Int) (wr (by omega) (by omega) (by omega)) ?_
      exact vc_fin 100 rfl ⟨e - b, d, rfl, rfl, rfl, .inl ⟨hlt, by omega, rfl⟩⟩
    · have hge : m ≤ d := by have := of_decide_eq_false h; omega
      exact vc_fin 100 rfl ⟨a, m, rfl, rfl, rfl, .inr ⟨hge, rfl, rfl⟩⟩
  rintro env' bs' g1 ⟨s0, r0, henv, rfl, rfl, hsr⟩
  refine vc_envs [0, 1, 2, 3, 4, 18, 19, 20, 21] _ henv ?_
  refine vc_arith 100 rfl rfl rfl rfl rfl ((e - 1 : Nat) : Int) (wr (by omega) (by omega) (by omega)) ?_
  have hs0a : a ≤ s0 := by omega
  have hr0m : r0 ≤ m := by omega
  have hr0d : r0 ≤ d := by omega
  have hsr0 : s0 ≤ r0 := by omega
  have hse : e ≤ s0 + b := by omega
  have hre : m + r0 ≤ e := by omega
  have hw := hx.wide hS
  have l0 : (X ++ U ++ V ++ Y).length = n := hn.symm
  refine vc_loop 100 rfl [0, 1, 2, 3, 4, 18, 19, 20, 21, 22] (fun z vs bs g2 => ∃ s r : Nat, z = r - s ∧ vs = [.c (.s 0 0 n c), .c (.v (.int .i64 ((a : Nat) : Int))), .c (.v (.int .i64 ((m : Nat) : Int))), .c (.v (.int .i64 ((b : Nat) : Int))), .c (.v (.func (.func f) #[] cp.toArray)), .c (.v (.int .i64 ((d : Nat) : Int))), .c (.v (.int .i64 ((e : Nat) : Int))), .c (.v (.int .i64 ((s : Nat) : Int))), .c (.v (.int .i64 ((r : Nat) : Int))), .c (.v (.int .i64 ((e - 1 : Nat) : Int)))] ∧
    bs = oneB β 127 (X ++ U ++ V ++ Y) sp ∧ g2 = g1 ∧ s0 ≤ s ∧ s ≤ r ∧ r ≤ r0 ∧ (s0 < s → ∀ x y, nth (X ++ U ++ V ++ Y) (s - 1) = some x → nth (X ++ U ++ V ++ Y) (e - s) = some y → ¬ ltOf ord y x) ∧ (r < r0 → ∀ x y, nth (X ++ U ++ V ++ Y) r = some x → nth (X ++ U ++ V ++ Y) (e - 1 - r) = some y → ltOf ord y x)) (r0 - s0)
    ⟨s0, r0, rfl, rfl, rfl, rfl, Nat.le_refl _, hsr0, Nat.le_refl _, fun h => absurd h (by omega), fun h => absurd h (by omega)⟩ ?_
  rintro z vs bs' g2 ⟨s, r, rfl, rfl, rfl, rfl, h1, h2, h3, h4, h5⟩
  refine vc_if 100 rfl rfl rfl (fun h => ?_) (fun h => ?_)
  · have hlt : s < r := by have := of_decide_eq_true h; omega
    refine vc_arith 100 rfl rfl rfl rfl rfl ((s + r : Nat) : Int) (wr (by omega) (by omega) (by omega)) ?_
    refine vc_convi 100 rfl rfl rfl ((s + r : Nat) : Int) (wu (by omega) (by omega)) ?_
    refine vc_shift 100 rfl rfl rfl rfl (half_shr (s + r)) (by omega) _ rfl ?_
    refine vc_convi 100 rfl rfl rfl (((s + r) / 2 : Nat) : Int) (wr rfl (by omega) (by omega)) ?_
    generalize hh : (s + r) / 2 = h
    have hlo : s ≤ h := by omega
    have hhi : h < r := by omega
    have hln : h < (X ++ U ++ V ++ Y).length := by omega
    have hlm : e - 1 - h < (X ++ U ++ V ++ Y).length := by omega
    have ex : X ++ U ++ V ++ Y = (X ++ U ++ V ++ Y).take h ++ (X ++ U ++ V ++ Y)[h] :: (X ++ U ++ V ++ Y).drop (h + 1) := by rw [← dropk hln, List.take_append_drop]
    have ey : X ++ U ++ V ++ Y = (X ++ U ++ V ++ Y).take (e - 1 - h) ++ (X ++ U ++ V ++ Y)[e - 1 - h] :: (X ++ U ++ V ++ Y).drop (e - 1 - h + 1) := by rw [← dropk hlm, List.take_append_drop]
    have sx : S (X ++ U ++ V ++ Y)[h] := hS _ (List.getElem_mem _)
    have sy : S (X ++ U ++ V ++ Y)[e - 1 - h] := hS _ (List.getElem_mem _)
    have nx := nth_get hln
    have ny := nth_get hlm
    generalize (X ++ U ++ V ++ Y)[h] = x at *
    generalize (X ++ U ++ V ++ Y)[e - 1 - h] = y at *
    have hxl : h = ((X ++ U ++ V ++ Y).take h).length := by rw [List.length_take]; omega
    have hy : e - 1 - h = ((X ++ U ++ V ++ Y).take (e - 1 - h)).length := by rw [List.length_take]; omega
    refine vc_drawF mix 100 rfl [4, 5, 9, 6, 10, 11] (fun i => match i with | 4 => .c (.v (.int .i64 ((e - 1 - h : Nat) : Int))) | 5 => .c (.p 0 (0 + (e - 1 - h) * 13)) | 9 => .c (.p 0 (0 + (h) * 13)) | 6 => .g (y.map C1.v) | 10 => .g (x.map C1.v) | 11 => .c (.v (.int .i64 (ord y x))) | _ => .c .no) rfl rfl ⟨?_, ?_, ?_, ?_, ?_, ?_, trivial⟩ ?_
    · exact vc_arith 100 rfl rfl rfl rfl rfl ((e - 1 - h : Nat) : Int) (wr (by omega) (by omega) (by omega)) (vc_fin 100 rfl ⟨rfl, rfl, fun d hd => by injection hd with hd; subst hd; rfl⟩)
    · exact vc_ias 100 rfl rfl rfl rfl rfl rfl (by omega) (by omega) (vc_fin 100 rfl ⟨rfl, rfl, fun d hd => by injection hd with hd; subst hd; rfl⟩)
    · exact vc_ias 100 rfl rfl rfl rfl rfl rfl (by omega) (by omega) (vc_fin 100 rfl ⟨rfl, rfl, fun d hd => by injection hd with hd; subst hd; rfl⟩)
    · exact vc_ldno 0 (y.map C1.v) rfl rfl rfl rfl (seg_row ey hy hw) (vc_fin 100 rfl ⟨rfl, rfl, fun d hd => by injection hd with hd; subst hd; rfl⟩)
    · exact vc_ldno 0 (x.map C1.v) rfl rfl rfl rfl (seg_row ex hxl hw) (vc_fin 100 rfl ⟨rfl, rfl, fun d hd => by injection hd with hd; subst hd; rfl⟩)
    · refine vc_callv (first := []) (cap := cp) 100 rfl rfl rfl (concs2 rfl rfl) hx.fn (hx.cmp y x sy sx) ?_; rintro _ _ - ⟨rfl, rfl⟩; exact vc_fin 100 rfl ⟨rfl, rfl, fun d hd => by injection hd with hd; subst hd; rfl⟩
    refine vc_if 100 rfl rfl rfl (fun hc => ?_) (fun hc => ?_)
    · have hge : ¬ ltOf ord y x := by simpa [ltOf] using hc
      refine vc_arith 100 rfl rfl rfl rfl rfl ((h + 1 : Nat) : Int) (wr (by omega) (by omega) (by omega)) ?_
      refine vc_fin 100 rfl ⟨r - (h + 1), [0], by omega, rfl, h + 1, r, rfl, rfl, ren_oneB .., rfl, by omega, by omega, h3, fun _ x' y' hx' hy' => ?_, h5⟩
      rw [show h + 1 - 1 = h by omega, nx] at hx'
      rw [show e - (h + 1) = e - 1 - h by omega, ny] at hy'
      injection hx' with hx'; injection hy' with hy'; subst hx' hy'; exact hge
    · have hlt2 : ltOf ord y x := by simpa [ltOf] using hc
      refine vc_fin 100 rfl ⟨h - s, [0], by omega, rfl, s, h, rfl, rfl, ren_oneB .., rfl, h1, hlo, by omega, h4, fun _ x' y' hx' hy' => ?_⟩
      rw [nx] at hx'
      rw [ny] at hy'
      injection hx' with hx'; injection hy' with hy'; subst hx' hy'; exact hlt2
  have hsr' : s = r := by have := of_decide_eq_false h; omega
  subst hsr'
  refine vc_arith 100 rfl rfl rfl rfl rfl ((e - s : Nat) : Int) (wr (by omega) (by omega) (by omega)) ?_
  generalize ht : e - s = t
  have ht1 : m ≤ t := by omega
  have ht2 : t ≤ b := by omega
  obtain ⟨U1, U2, rfl, hU1l⟩ : ∃ U1 U2, U = U1 ++ U2 ∧ U1.length = s - a := ⟨U.take (s - a), U.drop (s - a), (List.take_append_drop _ _).symm, by rw [List.length_take]; omega⟩
  obtain ⟨V1, V2, rfl, hV1l⟩ : ∃ V1 V2, V = V1 ++ V2 ∧ V1.length = t - m := ⟨V.take (t - m), V.drop (t - m), (List.take_append_drop _ _).symm, by rw [List.length_take]; omega⟩
  have hU2l : U2.length = m - s := by rw [List.length_append] at hm; omega
  have hV2l : V2.length = b - t := by simp only [List.length_append] at hbb hm; omega
  have c1 : ∀ A x y B, U1 = A ++ [x] → V2 = y :: B → ¬ ltOf ord y x := by
    rintro A x y B rfl rfl
    simp only [List.length_append, List.length_cons, List.length_nil] at hU1l hV2l
    refine h4 (by omega) x y ?_ ?_
    · have : X ++ (A ++ [x] ++ U2) ++ (V1 ++ y :: B) ++ Y = (X ++ A) ++ x :: (U2 ++ (V1 ++ y :: B) ++ Y) := by simp
      rw [this]; exact get_at' (by rw [List.length_append]; omega)
    · have : X ++ (A ++ [x] ++ U2) ++ (V1 ++ y :: B) ++ Y = (X ++ (A ++ [x] ++ U2) ++ V1) ++ y :: (B ++ Y) := by simp
      rw [this, ht]; exact get_at' (by simp only [List.length_append, List.length_cons, List.length_nil]; omega)
  have c2 : ∀ A x y B, U2 = x :: A → V1 = B ++ [y] → ltOf ord y x := by
    rintro A x y B rfl rfl
    simp only [List.length_append, List.length_cons, List.length_nil] at hU2l hV1l
    refine h5 (by omega) x y ?_ ?_
    · have : X ++ (U1 ++ x :: A) ++ (B ++ [y] ++ V2) ++ Y = (X ++ U1) ++ x :: (A ++ (B ++ [y] ++ V2) ++ Y) := by simp
      rw [this]; exact get_at' (by rw [List.length_append]; omega)
    · have : X ++ (U1 ++ x :: A) ++ (B ++ [y] ++ V2) ++ Y = (X ++ (U1 ++ x :: A) ++ B) ++ y :: (V2 ++ Y) := by simp
      rw [this]; exact get_at' (by simp only [List.length_append, List.length_cons]; omega)
  have hhv := halves hx.ord (fun y hy => hS y (by simp only [List.mem_append] at hy ⊢; rcases hy with (h | h) | h | h <;> simp [h])) hU hV c1 c2
  have hL : X ++ U1 ++ V1 ++ (U2 ++ V2) ++ Y = X ++ U1 ++ V1 ++ U2 ++ (V2 ++ Y) := by simp
  have hmem : ∀ x, x ∈ X ++ (U1 ++ U2) ++ (V1 ++ V2) ++ Y ↔ x ∈ X ++ U1 ++ V1 ++ (U2 ++ V2) ++ Y := fun x => by
    simp only [List.mem_append]
    constructor
    · rintro (((h | h | h) | h | h) | h) <;> simp [h]
    · rintro ((((h | h) | h) | h | h) | h) <;> simp [h]
  have hnn : n = (X ++ U1 ++ V1 ++ (U2 ++ V2) ++ Y).length := by simp only [List.length_append] at hn' ⊢; omega
  have hSS : ∀ x ∈ X ++ U1 ++ V1 ++ (U2 ++ V2) ++ Y, S x := fun x h => hS x ((hmem x).2 h)
  refine adv_ok 3 ?_
  refine vc_cut (fun env' bs' g3 => [0, 1, 3, 4, 18, 20, 24].map env' = [.c (.s 0 0 n c), .c (.v (.int .i64 ((a : Nat) : Int))), .c (.v (.int .i64 ((b : Nat) : Int))), .c (.v (.func (.func f) #[] cp.toArray)), .c (.v (.int .i64 ((d : Nat) : Int))), .c (.v (.int .i64 ((s : Nat) : Int))), .c (.v (.int .i64 ((t : Nat) : Int)))] ∧
    bs' = oneB β 127 (X ++ U1 ++ V1 ++ (U2 ++ V2) ++ Y) sp ∧ g3 = g2) ?_ (fun _ _ => trivial) ?_
  · refine vc_if 100 rfl rfl rfl (fun h => ?_) (fun h => ?_)
    · refine vc_if 100 rfl rfl rfl (fun h' => ?_) (fun h' => ?_)
      · have hlt1 : s < m := by have := of_decide_eq_true h; omega
        have hlt2 : m < t := by have := of_decide_eq_true h'; omega
        have e1 : X ++ (U1 ++ U2) ++ (V1 ++ V2) ++ Y = (X ++ U1) ++ U2 ++ V1 ++ (V2 ++ Y) := by simp
        rw [e1, hL]
        refine vc_callO 100 0 rfl rfl rfl rfl _ (concL_vals' _ _) (rotate13_ct (f := f) (cp := cp) (X ++ U1) U2 V1 (V2 ++ Y) s m t (hx.wide fun x h => hSS x (by rw [hL]; exact h)) (by rw [hnn, hL]) hb (by rw [List.length_append]; omega) (by rw [List.length_append]; omega) (by rw [List.length_append]; omega) (by omega) (by omega)) ?_
        rintro v cells' g9 - ⟨rfl, rfl⟩
        exact vc_fin 100 rfl ⟨rfl, rfl, rfl⟩
      · have hge2 : t ≤ m := by have := of_decide_eq_false h'; omega
        have : V1 = [] := List.eq_nil_of_length_eq_zero (by omega)
        subst this
        refine vc_fin 100 rfl ⟨rfl, ?_, rfl⟩
        exact congrArg (fun l => oneB β 127 l sp) (by simp)
    · have hge1 : m ≤ s := by have := of_decide_eq_false h; omega
      have : U2 = [] := List.eq_nil_of_length_eq_zero (by omega)
      subst this
      refine vc_fin 100 rfl ⟨rfl, ?_, rfl⟩
      exact congrArg (fun l => oneB β 127 l sp) (by simp)
  rintro env' bs' g3 ⟨henv, rfl, rfl⟩
  refine vc_envs [0, 1, 3, 4, 18, 20, 24] _ henv ?_
  have hd : d = X.length + U1.length + V1.length := by omega
  refine adv_ok 1 ?_
  refine vc_cut (fun env' bs' g4 => ∃ L1, L1.Perm (U1 ++ V1) ∧ Srtd (ltOf ord) L1 ∧ [0, 3, 4, 18, 24].map env' = [.c (.s 0 0 n c), .c (.v (.int .i64 ((b : Nat) : Int))), .c (.v (.func (.func f) #[] cp.toArray)), .c (.v (.int .i64 ((d : Nat) : Int))), .c (.v (.int .i64 ((t : Nat) : Int)))] ∧
    bs' = oneB β 127 (X ++ L1 ++ (U2 ++ V2) ++ Y) sp ∧ g4 = g3) ?_ (fun _ _ => trivial) ?_
  · have triv : (U1 = [] ∨ V1 = []) → Srtd (ltOf ord) (U1 ++ V1) := by
      rintro (h | h)
      · subst h; simpa using hV.parts.1
      · subst h; simpa using hU.parts.1
    have eX : X ++ (U1 ++ V1) ++ (U2 ++ V2) ++ Y = X ++ U1 ++ V1 ++ (U2 ++ V2) ++ Y := by simp
    refine vc_if 100 rfl rfl rfl (fun h => ?_) (fun h => ?_)
    · refine vc_if 100 rfl rfl rfl (fun h' => ?_) (fun h' => ?_)
      · have hlt1 : a < s := by have := of_decide_eq_true h; omega
        have hlt2 : s < d := by have := of_decide_eq_true h'; omega
        have eY : X ++ U1 ++ V1 ++ (U2 ++ V2) ++ Y = X ++ U1 ++ V1 ++ (U2 ++ V2 ++ Y) := by simp
        rw [eY]
        refine vc_callO 100 0 rfl rfl rfl rfl _ (concL_vals' _ _) (ih X U1 V1 (U2 ++ V2 ++ Y) a s d (by simp only [List.length_append] at hN; omega) (fun x h => hSS x (by rw [eY]; exact h)) (by rw [hnn, eY]) hU.parts.1 hV.parts.1 (by omega) (by omega) ha (by omega) hd) ?_
        rintro v cells' g9 - ⟨L1, p1, p2, rfl, rfl⟩
        refine vc_fin 100 rfl ⟨L1, p1, p2, rfl, ?_, rfl⟩
        exact congrArg (fun l => oneB β 127 l sp) (by simp)
      · have hge2 : d ≤ s := by have := of_decide_eq_false h'; omega
        refine vc_fin 100 rfl ⟨U1 ++ V1, .refl _, triv (.inr (List.eq_nil_of_length_eq_zero (by omega))), rfl, ?_, rfl⟩
        exact congrArg (fun l => oneB β 127 l sp) eX.symm
    · have hge1 : s ≤ a := by have := of_decide_eq_false h; omega
      refine vc_fin 100 rfl ⟨U1 ++ V1, .refl _, triv (.inl (List.eq_nil_of_length_eq_zero (by omega))), rfl, ?_, rfl⟩
      exact congrArg (fun l => oneB β 127 l sp) eX.symm
  rintro env' bs' g4 ⟨L1, p1, s1, henv, rfl, rfl⟩
  refine vc_envs [0, 3, 4, 18, 24] _ henv ?_
  have hL1 : L1.length = U1.length + V1.length := by rw [p1.length_eq, List.length_append]
  have triv : (U2 = [] ∨ V2 = []) → Srtd (ltOf ord) (U2 ++ V2) := by
    rintro (h | h)
    · subst h; simpa using hV.parts.2.1
    · subst h; simpa using hU.parts.2.1
  have done : ∀ L2, L2.Perm (U2 ++ V2) → Srtd (ltOf ord) L2 → (L1 ++ L2).Perm (U1 ++ U2 ++ (V1 ++ V2)) ∧ Srtd (ltOf ord) (L1 ++ L2) := fun L2 p2 s2 => ⟨perm_halves p1 p2, join_halves hhv p1 p2 s1 s2⟩
  refine vc_if 100 rfl rfl rfl (fun h => ?_) (fun h => ?_)
  · refine vc_if 100 rfl rfl rfl (fun h' => ?_) (fun h' => ?_)
    · have hlt1 : d < t := by have := of_decide_eq_true h; omega
      have hlt2 : t < b := by have := of_decide_eq_true h'; omega
      have eY : X ++ L1 ++ (U2 ++ V2) ++ Y = (X ++ L1) ++ U2 ++ V2 ++ Y := by simp
      rw [eY]
      refine vc_callO 100 0 rfl rfl rfl rfl _ (concL_vals' _ _) (ih (X ++ L1) U2 V2 Y d t b (by simp only [List.length_append] at hN; omega) (fun x h => hSS x (by
        rw [← eY] at h
        simp only [List.mem_append] at h ⊢
        rcases h with ((h | h) | h) | h
        · simp [h]
        · have := p1.mem_iff.1 h; simp only [List.mem_append] at this; rcases this with h | h <;> simp [h]
        · simp [h]
        · simp [h])) (by rw [hnn]; simp only [List.length_append]; omega) hU.parts.2.1 hV.parts.2.1 (by omega) (by omega) (by rw [List.length_append]; omega) (by rw [List.length_append]; omega) (by rw [List.length_append]; omega)) ?_
      rintro v cells' g9 - ⟨L2, p2, s2, rfl, rfl⟩
      obtain ⟨q1, q2⟩ := done L2 p2 s2
      exact vc_endO 100 0 rfl rfl rfl _ (concL_vals' _ _) ⟨L1 ++ L2, q1, q2, by simp, rfl⟩
    · have hge2 : b ≤ t := by have := of_decide_eq_false h'; omega
      obtain ⟨q1, q2⟩ := done _ (.refl _) (triv (.inr (List.eq_nil_of_length_eq_zero (by omega))))
      exact vc_endO 100 0 rfl rfl rfl _ (concL_vals' _ _) ⟨_, q1, q2, by simp, rfl⟩
  · have hge1 : t ≤ d := by have := of_decide_eq_false h; omega
    obtain ⟨q1, q2⟩ := done _ (.refl _) (triv (.inl (List.eq_nil_of_length_eq_zero (by omega))))
    exact vc_endO 100 0 rfl rfl rfl _ (concL_vals' _ _) ⟨_, q1, q2, by simp, rfl⟩

end Go.Proofs.YtmolncgdehfejaaGreatDoor

/- Contracts: the stable sort. -/
namespace Go.Proofs.YtmolncgdehfejaaGreatDoor
open Go
set_option maxRecDepth 10000

set_option maxHeartbeats 2000000 in
/-- The stable sort. -/
theorem stable13_ct {g : Gh} {β n c f : Nat} {sp cp : List Value} {S : List Value → Prop} {ord : List Value → List Value → Int} (hx : SortX Tryz.prog 13 g f cp S ord) (L : List (List Value)) (hS : ∀ x ∈ L, S x) (hn : n = L.length) (hb : n ≤ 274877906944) :
    CtO Tryz.prog 176 [.slice (some ⟨β, 0, none⟩) n c, .int .i64 ((n : Nat) : Int), .func (.func f) #[] cp.toArray] g β 127 (rowsC L sp)
      (fun _ cells g' => ∃ L', L'.Perm L ∧ Srtd (ltOf ord) L' ∧ cells = rowsC L' sp ∧ g' = g) := by
  have hSp : ∀ M : List (List Value), M.Perm L → ∀ x ∈ M, S x := fun M hM x hx => hS x (hM.mem_iff.1 hx)
  refine enterO ok176 (by simp) [.c (.s 0 0 n c), .c (.v (.int .i64 ((n : Nat) : Int))), .c (.v (.func (.func f) #[] cp.toArray))] rfl fun W => ?_
  refine vc_loop 100 rfl [0, 1, 2, 6, 7, 8] (fun z vs bs g1 => ∃ (don : List (List (List Value))) (rest : List (List Value)) (a : Nat), z = n - a ∧ vs = [.c (.s 0 0 n c), .c (.v (.int .i64 ((n : Nat) : Int))), .c (.v (.func (.func f) #[] cp.toArray)), .c (.v (.int .i64 20)), .c (.v (.int .i64 ((a : Nat) : Int))), .c (.v (.int .i64 ((a + 20 : Nat) : Int)))] ∧
    bs = oneB β 127 (don.flatten ++ rest) sp ∧ g1 = g ∧ a = don.flatten.length ∧ (don.flatten ++ rest).Perm L ∧ ∀ c ∈ don, c.length = 20 ∧ Srtd (ltOf ord) c) n ⟨[], L, 0, rfl, rfl, rfl, rfl, rfl, .refl _, by simp⟩ ?_
  rintro z vs bs' g1 ⟨don, rest, a, rfl, rfl, rfl, rfl, ha, hp, hd⟩
  have hlen : a + rest.length = n := by rw [hn, ← hp.length_eq, List.length_append, ha]
  refine vc_if 100 rfl rfl rfl (fun h => ?_) (fun h => ?_)
  · have hle : a + 20 ≤ n := by have := of_decide_eq_true h; omega
    obtain ⟨U, Y, rfl, hU⟩ : ∃ U Y, rest = U ++ Y ∧ U.length = 20 := ⟨rest.take 20, rest.drop 20, (List.take_append_drop _ _).symm, by rw [List.length_take]; omega⟩
    rw [← List.append_assoc] at hp ⊢
    refine vc_callO 100 0 rfl rfl rfl rfl _ (concL_vals' _ _) (insertion13_ct hx don.flatten U Y a (a + 20) (hSp _ hp) (by rw [hn, hp.length_eq]) (by omega) ha (by omega)) ?_
    rintro v cells' g9 - ⟨U', p1, s1, rfl, rfl⟩
    refine vc_arith 100 rfl rfl rfl rfl rfl ((a + 20 + 20 : Nat) : Int) (wr (by omega) (by omega) (by omega)) ?_
    have hU' : U'.length = 20 := by rw [p1.length_eq, hU]
    refine vc_fin 100 rfl ⟨n - (a + 20), [0], by omega, rfl, don ++ [U'], Y, a + 20, rfl, rfl, ?_, rfl, ?_, ?_, ?_⟩
    · rw [List.flatten_append, List.flatten_singleton]; exact ren_box1 ..
    · rw [List.flatten_append, List.flatten_singleton, List.length_append, ← ha, hU']
    · rw [List.flatten_append, List.flatten_singleton]
      exact (List.Perm.append_right _ (List.Perm.append_left _ p1)).trans hp
    · intro c hc
      rcases List.mem_append.1 hc with hc | hc
      · exact hd c hc
      · simp only [List.mem_singleton] at hc; subst hc; exact ⟨hU', s1⟩
  have hlt : n < a + 20 := by have := of_decide_eq_false h; omega
  have e0 : don.flatten ++ rest = don.flatten ++ rest ++ [] := by simp
  rw [e0] at hp ⊢
  refine vc_callO 100 0 rfl rfl rfl rfl _ (concL_vals' _ _) (insertion13_ct hx don.flatten rest [] a n (hSp _ hp) (by rw [hn, hp.length_eq]) (by omega) ha (by omega)) ?_
  rintro v cells' g9 - ⟨rest', p1, s1, rfl, rfl⟩
  have hp' : (don.flatten ++ rest').Perm L := (List.Perm.append_left _ p1).trans (by simpa using hp)
  have hr' : rest'.length < 20 := by rw [p1.length_eq]; omega
  refine vc_loop 100 rfl [0, 1, 2, 6] (fun z vs bs g2 => ∃ (s : Nat) (ch : List (List (List Value))) (last : List (List Value)), z = n - s ∧ vs = [.c (.s 0 0 n c), .c (.v (.int .i64 ((n : Nat) : Int))), .c (.v (.func (.func f) #[] cp.toArray)), .c (.v (.int .i64 ((s : Nat) : Int)))] ∧
    bs = oneB β 127 (ch.flatten ++ last) sp ∧ g2 = _ ∧ 0 < s ∧ s ≤ 20 + 2 * n ∧ (ch.flatten ++ last).Perm L ∧ (∀ c ∈ ch, c.length = s ∧ Srtd (ltOf ord) c) ∧ last.length < s ∧ Srtd (ltOf ord) last) (n - 20)
    ⟨20, don, rest', rfl, rfl, by rw [List.append_nil (don.flatten ++ rest')]; rfl, rfl, by omega, by omega, hp', hd, hr', s1⟩ ?_
  clear hp hd hp' hr' s1 p1 ha hlen hlt e0 h
  rintro z vs bs' g2 ⟨s, ch, last, rfl, rfl, rfl, rfl, hs0, hsn, hp, hc, hl, sl⟩
  have hlen : ch.flatten.length + last.length = n := by rw [hn, ← hp.length_eq, List.length_append]
  refine vc_if 100 rfl rfl rfl (fun h => ?_) (fun h => ?_)
  · have hlt : s < n := by have := of_decide_eq_true h; omega
    refine vc_arith 100 rfl rfl rfl rfl rfl ((2 * s : Nat) : Int) (wr (by omega) (by omega) (by omega)) ?_
    refine vc_loop 100 rfl [0, 1, 2, 6, 7, 8] (fun z vs bs g3 => ∃ (don ch : List (List (List Value))) (a : Nat), z = n - a ∧ vs = [.c (.s 0 0 n c), .c (.v (.int .i64 ((n : Nat) : Int))), .c (.v (.func (.func f) #[] cp.toArray)), .c (.v (.int .i64 ((s : Nat) : Int))), .c (.v (.int .i64 ((a : Nat) : Int))), .c (.v (.int .i64 ((a + 2 * s : Nat) : Int)))] ∧
      bs = oneB β 127 (don.flatten ++ (ch.flatten ++ last)) sp ∧ g3 = _ ∧ a = don.flatten.length ∧ (don.flatten ++ (ch.flatten ++ last)).Perm L ∧ (∀ c ∈ don, c.length = 2 * s ∧ Srtd (ltOf ord) c) ∧ ∀ c ∈ ch, c.length = s ∧ Srtd (ltOf ord) c) n
      ⟨[], ch, 0, rfl, by rw [Nat.zero_add]; rfl, rfl, rfl, rfl, hp, by simp, hc⟩ ?_
    clear hp hc hlen
    rintro z vs bs' g3 ⟨don, ch, a, rfl, rfl, rfl, rfl, ha, hp, hd, hc⟩
    have hlen : a + (ch.flatten.length + last.length) = n := by rw [hn, ← hp.length_eq, List.length_append, List.length_append, ha]
    refine vc_if 100 rfl rfl rfl (fun h => ?_) (fun h => ?_)
    · have hle : a + 2 * s ≤ n := by have := of_decide_eq_true h; omega
      match ch, hc, hp, hlen with
      | [], hc, hp, hlen => simp only [List.flatten_nil, List.length_nil] at hlen; omega
      | [c1], hc, hp, hlen =>
        have := (hc c1 (by simp)).1
        simp only [List.flatten_cons, List.flatten_nil, List.length_append, List.length_nil] at hlen; omega
      | c1 :: c2 :: r, hc, hp, hlen =>
        obtain ⟨l1, q1⟩ := hc c1 (by simp)
        obtain ⟨l2, q2⟩ := hc c2 (by simp)
        have e1 : don.flatten ++ ((c1 :: c2 :: r).flatten ++ last) = don.flatten ++ c1 ++ c2 ++ (r.flatten ++ last) := by simp
        rw [e1] at hp ⊢
        refine vc_arith 100 rfl rfl rfl rfl rfl ((a + s : Nat) : Int) (wr (by omega) (by omega) (by omega)) ?_
        refine vc_callO 100 0 rfl rfl rfl rfl _ (concL_vals' _ _) (merge13_ct hx (by omega) (c1.length + c2.length) don.flatten c1 c2 (r.flatten ++ last) a (a + s) (a + 2 * s) (Nat.le_refl _) (hSp _ hp) (by rw [hn, hp.length_eq]) q1 q2 (by omega) (by omega) ha (by omega) (by omega)) ?_
        rintro v cells' g9 - ⟨M, p1, s1, rfl, rfl⟩
        have hM : M.length = 2 * s := by rw [p1.length_eq, List.length_append]; omega
        refine vc_arith 100 rfl rfl rfl rfl rfl ((2 * s : Nat) : Int) (wr (by omega) (by omega) (by omega)) ?_
        refine vc_arith 100 rfl rfl rfl rfl rfl ((a + 2 * s + 2 * s : Nat) : Int) (wr (by omega) (by omega) (by omega)) ?_
        have e2 : (don ++ [M]).flatten ++ (r.flatten ++ last) = don.flatten ++ M ++ (r.flatten ++ last) := by simp
        refine vc_fin 100 rfl ⟨n - (a + 2 * s), [0], by omega, rfl, don ++ [M], r, a + 2 * s, rfl, rfl, ?_, rfl, ?_, ?_, ?_, fun c h => hc c (by simp [h])⟩
        · rw [e2]; exact ren_box1 ..
        · rw [List.flatten_append, List.flatten_singleton, List.length_append, ← ha, hM]
        · rw [e2]
          refine (List.Perm.append_right _ (List.Perm.append_left _ p1)).trans ?_
          simpa only [List.append_assoc] using hp
        · intro c hcm
          rcases List.mem_append.1 hcm with hcm | hcm
          · exact hd c hcm
          · simp only [List.mem_singleton] at hcm; subst hcm; exact ⟨hM, s1⟩
    · have hgt : n < a + 2 * s := by have := of_decide_eq_false h; omega
      refine vc_arith 100 rfl rfl rfl rfl rfl ((a + s : Nat) : Int) (wr (by omega) (by omega) (by omega)) ?_
      have fin : ∀ (last' : List (List Value)), last'.Perm (ch.flatten ++ last) → last'.length < 2 * s → (don.flatten ++ last').Perm L := fun last' p _ => (List.Perm.append_left _ p).trans hp
      refine vc_if 100 rfl rfl rfl (fun h => ?_) (fun h => ?_)
      · have hmn : a + s < n := by have := of_decide_eq_true h; omega
        match ch, hc, hp, hlen, fin with
        | [], hc, hp, hlen, fin => simp only [List.flatten_nil, List.length_nil] at hlen; omega
        | c1 :: c2 :: r, hc, hp, hlen, fin =>
          have := (hc c1 (by simp)).1
          have := (hc c2 (by simp)).1
          simp only [List.flatten_cons, List.length_append] at hlen; omega
        | [c1], hc, hp, hlen, fin =>
          obtain ⟨l1, q1⟩ := hc c1 (by simp)
          simp only [List.flatten_cons, List.flatten_nil, List.append_nil] at hlen
          have e1 : don.flatten ++ ([c1].flatten ++ last) = don.flatten ++ c1 ++ last ++ [] := by simp
          rw [e1] at hp ⊢
          refine vc_callO 100 0 rfl rfl rfl rfl _ (concL_vals' _ _) (merge13_ct hx (by omega) (c1.length + last.length) don.flatten c1 last [] a (a + s) n (Nat.le_refl _) (hSp _ hp) (by rw [hn, hp.length_eq]) q1 sl (by omega) (by omega) ha (by omega) (by omega)) ?_
          rintro v cells' g9 - ⟨M, p1, s1, rfl, rfl⟩
          have hM : M.length < 2 * s := by rw [p1.length_eq, List.length_append]; omega
          refine vc_arith 100 rfl rfl rfl rfl rfl ((2 * s : Nat) : Int) (wr (by omega) (by omega) (by omega)) ?_
          refine vc_fin 100 rfl ⟨n - 2 * s, [0], by omega, rfl, 2 * s, don, M, rfl, rfl, ?_, rfl, by omega, by omega, fin M (by simpa using p1) hM, hd, hM, s1⟩
          rw [List.append_nil]; exact ren_box1 ..
      · have hmn : n ≤ a + s := by have := of_decide_eq_false h; omega
        refine vc_arith 100 rfl rfl rfl rfl rfl ((2 * s : Nat) : Int) (wr (by omega) (by omega) (by omega)) ?_
        match ch, hc, hp, hlen, fin with
        | [], hc, hp, hlen, fin => exact vc_fin 100 rfl ⟨n - 2 * s, [0], by omega, rfl, 2 * s, don, last, rfl, rfl, ren_box1 .., rfl, by omega, by omega, fin last (.refl _) (by omega), hd, by omega, sl⟩
        | c1 :: c2 :: r, hc, hp, hlen, fin =>
          have := (hc c1 (by simp)).1
          have := (hc c2 (by simp)).1
          simp only [List.flatten_cons, List.length_append] at hlen; omega
        | [c1], hc, hp, hlen, fin =>
          obtain ⟨l1, q1⟩ := hc c1 (by simp)
          simp only [List.flatten_cons, List.flatten_nil, List.append_nil] at hlen
          have : last = [] := List.eq_nil_of_length_eq_zero (by omega)
          subst this
          refine vc_fin 100 rfl ⟨n - 2 * s, [0], by omega, rfl, 2 * s, don, c1, rfl, rfl, ?_, rfl, by omega, by omega, fin c1 (by simp) (by omega), hd, by omega, q1⟩
          rw [show don.flatten ++ ([c1].flatten ++ []) = don.flatten ++ c1 by simp]; exact ren_box1 ..
  · have hns : n ≤ s := by have := of_decide_eq_false h; omega
    refine vc_endO 100 0 rfl rfl rfl _ (concL_vals' _ _) ⟨_, hp, ?_, rfl, rfl⟩
    match ch, hc, hlen with
    | [], hc, hlen => simpa using sl
    | c1 :: c2 :: r, hc, hlen =>
      have := (hc c1 (by simp)).1
      have := (hc c2 (by simp)).1
      simp only [List.flatten_cons, List.length_append] at hlen; omega
    | [c1], hc, hlen =>
      obtain ⟨l1, q1⟩ := hc c1 (by simp)
      simp only [List.flatten_cons, List.flatten_nil, List.append_nil] at hlen
      have : last = [] := List.eq_nil_of_length_eq_zero (by omega)
      subst this
      simpa using q1
theorem sortStable13_ct {g : Gh} {β n c f : Nat} {sp cp : List Value} {S : List Value → Prop} {ord : List Value → List Value → Int} (hx : SortX Tryz.prog 13 g f cp S ord) (L : List (List Value)) (hS : ∀ x ∈ L, S x) (hn : n = L.length) (hb : n ≤ 274877906944) :
    CtO Tryz.prog 121 [.slice (some ⟨β, 0, none⟩) n c, .func (.func f) #[] cp.toArray] g β 127 (rowsC L sp)
      (fun _ cells g' => ∃ L', L'.Perm L ∧ Srtd (ltOf ord) L' ∧ cells = rowsC L' sp ∧ g' = g) := by
  refine enterO ok121 (by simp) [.c (.s 0 0 n c), .c (.v (.func (.func f) #[] cp.toArray))] rfl fun W => ?_
  refine vc_callO 100 0 rfl rfl rfl rfl _ (concL_vals' _ _) (stable13_ct hx L hS hn hb) ?_
  rintro v cells' g9 - ⟨M, p1, s1, rfl, rfl⟩
  exact vc_endO 100 0 rfl rfl rfl _ (concL_vals' _ _) ⟨M, p1, s1, rfl, rfl⟩

end Go.Proofs.YtmolncgdehfejaaGreatDoor

/- Plain laws: the order of a question is one; sorted lists of the same elements are equal. -/
namespace Go.Proofs.YtmolncgdehfejaaGreatDoor
open Go

/-- Comparing: the other way round it is the opposite, and what is not behind what is not behind is not behind. -/
structure CmpOk {α : Type} (c : α → α → Int) : Prop where
  anti : ∀ x y, c y x = - c x y
  trans : ∀ x y z, c x y ≤ 0 → c y z ≤ 0 → c x z ≤ 0

theorem CmpOk.refl {α : Type} {c : α → α → Int} (h : CmpOk c) (x : α) : c x x = 0 := by have := h.anti x x; omega
theorem CmpOk.neg {α : Type} {c : α → α → Int} (h : CmpOk c) : CmpOk (fun x y => - c x y) :=
  ⟨fun x y => by rw [h.anti], fun x y z a b => by
    have := h.trans z y x (by have := h.anti y z; omega) (by have := h.anti x y; omega)
    have := h.anti x z; omega⟩
theorem CmpOk.lex {α : Type} {c d : α → α → Int} (h : CmpOk c) (k : CmpOk d) : CmpOk (fun x y => if c x y = 0 then d x y else c x y) := by
  refine ⟨fun x y => ?_, fun x y z a b => ?_⟩
  · have := h.anti x y; have := k.anti x y
    split <;> split <;> omega
  · have hxy := h.anti x y; have hyz := h.anti y z; have hxz := h.anti x z
    have c1 : c x y ≤ 0 := by split at a <;> omega
    have c2 : c y z ≤ 0 := by split at b <;> omega
    have c3 := h.trans x y z c1 c2
    split
    · rename_i h0
      have c4 := h.trans y z x c2 (by omega)
      have c5 := h.trans z x y (by omega) c1
      rw [if_pos (by omega)] at a b
      exact k.trans x y z a b
    · exact c3
theorem CmpOk.key {α β : Type} {c : β → β → Int} (h : CmpOk c) (f : α → β) : CmpOk (fun x y => c (f x) (f y)) :=
  ⟨fun x y => h.anti _ _, fun x y z => h.trans _ _ _⟩
theorem cmpOk_int : CmpOk cmpII := by
  refine ⟨fun x y => ?_, fun x y z a b => ?_⟩
  · unfold cmpII; split <;> split <;> (try split) <;> (try split) <;> omega
  · unfold cmpII at *; split <;> (try split) <;> (try omega)
    repeat' split at a
    all_goals repeat' split at b
    all_goals omega

theorem bytesLess_irrefl : ∀ x : List UInt8, Op.bytesLess x x = false
  | [] => rfl
  | a :: x => by
    have : ¬ a < a := UInt8.lt_irrefl a
    simp [Op.bytesLess, bytesLess_irrefl x, this]
theorem bytesLess_asymm : ∀ x y : List UInt8, Op.bytesLess x y = true → Op.bytesLess y x = false
  | _, [], h => by simp [Op.bytesLess] at h
  | [], _ :: _, _ => rfl
  | a :: x, b :: y, h => by
    simp only [Op.bytesLess, Bool.or_eq_true, decide_eq_true_eq, Bool.and_eq_true, beq_iff_eq] at h
    rcases h with h | ⟨rfl, h⟩
    · have h1 : ¬ b < a := UInt8.lt_asymm h
      have h2 : b ≠ a := fun e => by subst e; exact UInt8.lt_irrefl _ h
      simp [Op.bytesLess, h1, h2]
    · have h1 : ¬ a < a := UInt8.lt_irrefl a
      simp [Op.bytesLess, h1, bytesLess_asymm x y h]
theorem bytesLess_trans : ∀ x y z : List UInt8, Op.bytesLess x y = true → Op.bytesLess y z = true → Op.bytesLess x z = true
  | _, [], _, h, _ => by simp [Op.bytesLess] at h
  | _, _ :: _, [], _, h => by simp [Op.bytesLess] at h
  | [], _ :: _, _ :: _, _, _ => rfl
  | a :: x, b :: y, c :: z, h, k => by
    simp only [Op.bytesLess, Bool.or_eq_true, decide_eq_true_eq, Bool.and_eq_true, beq_iff_eq] at h k ⊢
    rcases h with h | ⟨rfl, h⟩ <;> rcases k with k | ⟨rfl, k⟩
    · exact .inl (UInt8.lt_trans h k)
    · exact .inl h
    · exact .inl k
    · exact .inr ⟨rfl, bytesLess_trans x y z h k⟩
theorem bytesLess_total : ∀ x y : List UInt8, Op.bytesLess x y = false → Op.bytesLess y x = false → x = y
  | [], [], _, _ => rfl
  | [], _ :: _, h, _ => by simp [Op.bytesLess] at h
  | _ :: _, [], _, h => by simp [Op.bytesLess] at h
  | a :: x, b :: y, h, k => by
    simp only [Op.bytesLess, Bool.or_eq_false_iff, decide_eq_false_iff_not] at h k
    have : a = b := UInt8.le_antisymm (UInt8.not_lt.1 k.1) (UInt8.not_lt.1 h.1)
    subst this
    simp only [beq_self_eq_true, Bool.true_and] at h k
    rw [bytesLess_total x y h.2 k.2]
theorem cmpSS_cases (x y : ByteArray) : (Op.bytesLess x.toList y.toList = true ∧ cmpSS x y = -1 ∧ cmpSS y x = 1) ∨ (x.toList = y.toList ∧ cmpSS x y = 0 ∧ cmpSS y x = 0) ∨ (Op.bytesLess y.toList x.toList = true ∧ cmpSS x y = 1 ∧ cmpSS y x = -1) := by
  cases h1 : Op.bytesLess x.toList y.toList with
  | true =>
    have h2 := bytesLess_asymm _ _ h1
    have h3 : (y.toList == x.toList) = false := by
      rw [beq_eq_false_iff_ne]; intro e; rw [e, bytesLess_irrefl] at h1; cases h1
    exact .inl ⟨rfl, by simp [cmpSS, h1], by simp [cmpSS, h2, h3]⟩
  | false =>
    cases h2 : Op.bytesLess y.toList x.toList with
    | true =>
      have h3 : (x.toList == y.toList) = false := by
        rw [beq_eq_false_iff_ne]; intro e; rw [e, bytesLess_irrefl] at h2; cases h2
      exact .inr (.inr ⟨rfl, by simp [cmpSS, h1, h3], by simp [cmpSS, h2]⟩)
    | false =>
      have e := bytesLess_total _ _ h1 h2
      exact .inr (.inl ⟨e, by simp [cmpSS, e, bytesLess_irrefl], by simp [cmpSS, e, bytesLess_irrefl]⟩)
theorem cmpOk_str : CmpOk cmpSS := by
  refine ⟨fun x y => ?_, fun x y z a b => ?_⟩
  · rcases cmpSS_cases x y with ⟨_, h1, h2⟩ | ⟨_, h1, h2⟩ | ⟨_, h1, h2⟩ <;> rw [h1, h2] <;> rfl
  · rcases cmpSS_cases x y with ⟨p, h1, _⟩ | ⟨p, h1, _⟩ | ⟨_, h1, _⟩
    · rcases cmpSS_cases y z with ⟨q, h2, _⟩ | ⟨q, h2, _⟩ | ⟨_, h2, _⟩
      · have := bytesLess_trans _ _ _ p q; simp [cmpSS, this]
      · rw [q] at p; simp [cmpSS, p]
      · omega
    · rcases cmpSS_cases y z with ⟨q, h2, _⟩ | ⟨q, h2, _⟩ | ⟨_, h2, _⟩
      · rw [← p] at q; simp [cmpSS, q]
      · rw [← p] at q; simp [cmpSS, q, bytesLess_irrefl]
      · omega
    · omega

/-- Moments: those that have none stand behind, whichever way. -/
def momentKey (down : Bool) (m : Int) : Int × Int := if m < 0 then (1, if down then -m else m) else (0, if down then -m else m)
theorem cmpOk_pair : CmpOk (fun (x y : Int × Int) => if cmpII x.1 y.1 = 0 then cmpII x.2 y.2 else cmpII x.1 y.1) := (cmpOk_int.key Prod.fst).lex (cmpOk_int.key Prod.snd)
theorem cmpII_lt {x y : Int} : cmpII x y < 0 ↔ x < y := by unfold cmpII; split <;> (try split) <;> omega
theorem cmpII_zero {x y : Int} : cmpII x y = 0 ↔ x = y := by unfold cmpII; split <;> (try split) <;> omega
theorem cmpII_eq (x y : Int) : (x < y ∧ cmpII x y = -1) ∨ (x = y ∧ cmpII x y = 0) ∨ (y < x ∧ cmpII x y = 1) := by unfold cmpII; split <;> (try split) <;> omega

theorem compareOk (s : Srt) : CmpOk (compareI s) := by
  obtain ⟨by_, down⟩ := s
  have key : ∀ (c : Pho → Pho → Int), CmpOk c → (∀ a b, compareI ⟨by_, down⟩ a b = if down then - c a b else c a b) → CmpOk (compareI ⟨by_, down⟩) := by
    intro c hc he
    have e : compareI ⟨by_, down⟩ = fun a b => if down then - c a b else c a b := by funext a b; exact he a b
    rw [e]
    cases down with
    | true => exact hc.neg
    | false => exact hc
  by_cases h2 : by_ = 2
  · subst h2
    have e : compareI ⟨2, down⟩ = fun a b => (fun (x y : Int × Int) => if cmpII x.1 y.1 = 0 then cmpII x.2 y.2 else cmpII x.1 y.1) (momentKey down a.moment) (momentKey down b.moment) := by
      funext a b
      unfold compareI momentKey cmpII
      generalize a.moment = x
      generalize b.moment = y
      by_cases ha : x < 0 <;> by_cases hb : y < 0 <;> cases down <;> simp [ha, hb]
      all_goals (repeat' split) <;> omega
    rw [e]
    exact cmpOk_pair.key fun p : Pho => momentKey down p.moment
  · by_cases h1 : by_ = 1
    · exact key _ (cmpOk_int.key (fun p : Pho => p.id)) fun a b => by simp [compareI, h1]
    by_cases h3 : by_ = 3
    · exact key _ (cmpOk_int.key (fun p : Pho => p.stars)) fun a b => by simp [compareI, h3]
    by_cases h4 : by_ = 4
    · exact key _ (cmpOk_int.key (fun p : Pho => p.w * p.h)) fun a b => by simp [compareI, h4]
    by_cases h5 : by_ = 5
    · exact key _ (cmpOk_str.key (fun p : Pho => p.caption)) fun a b => by simp [compareI, h5]
    exact key (fun _ _ => 0) ⟨fun _ _ => rfl, fun _ _ _ _ _ => Int.le_refl 0⟩ fun a b => by simp [compareI, h1, h2, h3, h4, h5]
theorem orderOk : ∀ (l : List Srt), CmpOk (orderI l)
  | [] => cmpOk_int.key (fun p : Pho => p.id)
  | s :: l => by
    have e : orderI (s :: l) = fun a b => if compareI s a b = 0 then orderI l a b else compareI s a b := by funext a b; rfl
    rw [e]; exact (compareOk s).lex (orderOk l)
theorem order_zero : ∀ (l : List Srt) (a b : Pho), orderI l a b = 0 → a.id = b.id
  | [], a, b, h => cmpII_zero.1 h
  | s :: l, a, b, h => by
    rw [orderI] at h
    split at h
    · exact order_zero l a b h
    · contradiction

/-- Sorted lists of the same elements are equal, where no two stand alike. -/
theorem sorted_unique {α : Type} {le : α → α → Prop} : ∀ (l m : List α), l.Perm m → l.Pairwise le → m.Pairwise le → (∀ x ∈ l, ∀ y ∈ l, le x y → le y x → x = y) → l = m
  | [], m, h, _, _, _ => by have := h.symm.eq_nil; exact this.symm
  | x :: l, [], h, _, _, _ => by have := h.eq_nil; cases this
  | x :: l, y :: m, h, hl, hm, ha => by
    have hxm : x ∈ y :: m := h.mem_iff.1 (by simp)
    have hyl : y ∈ x :: l := h.mem_iff.2 (by simp)
    have e : x = y := by
      rcases List.mem_cons.1 hxm with e | h1
      · exact e
      rcases List.mem_cons.1 hyl with e | h2
      · exact e.symm
      exact ha x (by simp) y hyl ((List.pairwise_cons.1 hl).1 y h2) ((List.pairwise_cons.1 hm).1 x h1)
    subst e
    rw [sorted_unique l m (List.perm_cons x |>.1 h) (List.pairwise_cons.1 hl).2 (List.pairwise_cons.1 hm).2 fun a ha' b hb' => ha a (by simp [ha']) b (by simp [hb'])]

end Go.Proofs.YtmolncgdehfejaaGreatDoor

/- Contracts: photos that are sorted. -/
namespace Go.Proofs.YtmolncgdehfejaaGreatDoor
open Go
set_option maxRecDepth 10000

theorem Row.unique {g : Gh} {β off n : Nat} {cs ds : List Value} (h : Row g β off cs) (k : Row g β off ds) (h1 : lenIs cs n = true) (h2 : lenIs ds n = true) : cs = ds := by
  have l1 := lenIs_eq _ _ h1
  have l2 := lenIs_eq _ _ h2
  apply List.ext_getElem (by omega)
  intro i hi hj
  have a := h i cs[i] (nth_get hi)
  have b := k i ds[i] (nth_get hj)
  rw [a] at b; injection b
theorem Sl.unique {α : Type} {g : Gh} {size : Nat} {R : List Value → α → Prop} {v : Value} {xs ys : List α} (hR : ∀ cs x y, R cs x → R cs y → x = y) (h : Sl g size R v xs) (k : Sl g size R v ys) : xs = ys := by
  obtain ⟨A, c, rfl, -, h3⟩ := h
  obtain ⟨B, d, e, -, k3⟩ := k
  injection e with e1 e2 e3; subst e1
  apply List.ext_getElem e2
  intro i hi hj
  obtain ⟨β, off, cs, rfl, a1, a2, a3⟩ := h3 i xs[i] (nth_get hi)
  obtain ⟨β', off', ds, e, b1, b2, b3⟩ := k3 i ys[i] (nth_get hj)
  injection e with e; injection e with e4 e5; subst e4 e5
  have := Row.unique a2 b2 a1 b1
  subst this
  exact hR cs _ _ a3 b3
theorem PlcR.unique {cs : List Value} {x y : Plc} (h : PlcR cs x) (k : PlcR cs y) : x = y := by
  obtain ⟨rfl, -⟩ := h
  obtain ⟨e, -⟩ := k
  obtain ⟨a, b⟩ := x; obtain ⟨c, d⟩ := y
  simp only [List.cons.injEq, Value.int.injEq, true_and, and_true] at e
  rw [e.1, e.2]
theorem StrR.unique {cs : List Value} {x y : ByteArray} (h : StrR cs x) (k : StrR cs y) : x = y := by
  obtain ⟨rfl, -⟩ := h
  obtain ⟨e, -⟩ := k
  simpa using e
theorem IntR.unique {cs : List Value} {x y : Int} (h : IntR cs x) (k : IntR cs y) : x = y := by
  obtain ⟨rfl, -⟩ := h
  obtain ⟨e, -⟩ := k
  simpa using e
theorem PhoR.unique {g : Gh} {cs : List Value} {p q : Pho} (h : PhoR g cs p) (k : PhoR g cs q) : p = q := by
  obtain ⟨vw, vt, vp, rfl, h1, h2, h3, -⟩ := h
  obtain ⟨vw', vt', vp', e, k1, k2, k3, -⟩ := k
  obtain ⟨a1, a2, a3, a4, a5, a6, a7, a8, a9, a10, a11, a12, a13⟩ := p
  obtain ⟨b1, b2, b3, b4, b5, b6, b7, b8, b9, b10, b11, b12, b13⟩ := q
  simp only [List.cons.injEq, Value.int.injEq, Value.string.injEq, Value.bool.injEq, true_and, and_true] at e
  obtain ⟨e1, e2, e3, e4, e5, e6, e7, e8, e9, e10, e11, e12, e13⟩ := e
  subst e5 e10 e12
  have f1 := Sl.unique (R := PlcR) (fun _ _ _ => PlcR.unique) h1 k1
  have f2 := Sl.unique (R := StrR) (fun _ _ _ => StrR.unique) h2 k2
  have f3 := Sl.unique (R := IntR) (fun _ _ _ => IntR.unique) h3 k3
  simp only at f1 f2 f3
  rw [e1, e2, e3, e4, f1, e6, e7, e8, e9, f2, e11, f3, e13]

instance : Nonempty Pho := ⟨⟨0, ⟨#[]⟩, 0, 0, [], 0, 0, 0, 0, [], ⟨#[]⟩, [], false⟩⟩
/-- The photo that cells are. -/
noncomputable def phOf (g : Gh) (cs : List Value) : Pho := Classical.epsilon fun p => PhoR g cs p
theorem phOf_spec {g : Gh} {cs : List Value} {p : Pho} (h : PhoR g cs p) : phOf g cs = p := PhoR.unique (Classical.epsilon_spec (p := fun p => PhoR g cs p) ⟨p, h⟩) h
def PhoS (g : Gh) (cs : List Value) : Prop := ∃ p, PhoR g cs p ∧ PhoN p
theorem fn84 : IsFn 84 := ⟨_, rfl, rfl, by kernel_rfl⟩
theorem photoX {g : Gh} {β c0 : Nat} {A0 : Option Addr} (l : List Srt) (hq : g β 6 = some (.slice A0 l.length c0)) (hs : Sl g 2 SrtR (.slice A0 l.length c0) l) :
    SortX Tryz.prog 13 g 84 [.pointer (some ⟨β, 0, none⟩)] (PhoS g) (fun x y => orderI l (phOf g x) (phOf g y)) where
  fn := fn84
  len := fun x ⟨p, hp, _⟩ => pho_len hp
  one := fun x ⟨p, hp, _⟩ => allOne_of _ fun y hy => by
    obtain ⟨u, hu, rfl⟩ := List.mem_map.1 hy
    exact pho_one hp u hu
  cmp := fun x y ⟨p, hp, np⟩ ⟨q, hq', nq⟩ => by
    rw [phOf_spec hp, phOf_spec hq']
    have ex : x.toArray = x.toArray := rfl
    exact order_ct l hq hs ⟨x, rfl, hp⟩ ⟨y, rfl, hq'⟩ np nq
  ord := ⟨fun x y _ _ h => by have := (orderOk l).anti (phOf g x) (phOf g y); omega, fun x y z _ _ _ h1 h2 => by
    have a1 := (orderOk l).anti (phOf g x) (phOf g y)
    have a2 := (orderOk l).anti (phOf g y) (phOf g z)
    have a3 := (orderOk l).anti (phOf g x) (phOf g z)
    have := (orderOk l).trans (phOf g x) (phOf g y) (phOf g z) (by omega) (by omega)
    omega⟩

end Go.Proofs.YtmolncgdehfejaaGreatDoor

/- Contracts: a sorted copy of photos; the answer to a question. -/
namespace Go.Proofs.YtmolncgdehfejaaGreatDoor
open Go
set_option maxRecDepth 10000

/-! ### Nothing to sort -/
section
variable (A : Option Addr) (c f : Nat) (cp : Array Value) (g : Gh)
theorem insertion0_ct : Ct Tryz.prog 211 [.slice A 0 c, .int .i64 0, .int .i64 0, .func (.func f) #[] cp] g (fun _ g' => g' = g) := by
  refine enter ok211 (by simp) fun W => ?_
  refine vc_arith 100 rfl rfl rfl rfl rfl 1 (wr (by omega) (by omega) (by omega)) ?_
  refine vc_loop 100 rfl [2, 8] (fun m vs bs g' => vs = [.c (.v (.int .i64 0)), .c (.v (.int .i64 1))] ∧ bs = [] ∧ g' = g) 0 ⟨rfl, rfl, rfl⟩ ?_
  rintro m vs bs' g' ⟨rfl, rfl, rfl⟩
  refine vc_if 100 rfl rfl rfl (fun h => by cases h) (fun _ => ?_)
  exact vc_end0 100 rfl rfl rfl
theorem stable0_ct : Ct Tryz.prog 176 [.slice A 0 c, .int .i64 0, .func (.func f) #[] cp] g (fun _ g' => g' = g) := by
  refine enter ok176 (by simp) fun W => ?_
  refine vc_loop 100 rfl [0, 1, 2, 6, 7, 8] (fun m vs bs g' => vs = [.c (.v (.slice A 0 c)), .c (.v (.int .i64 0)), .c (.v (.func (.func f) #[] cp)), .c (.v (.int .i64 20)), .c (.v (.int .i64 0)), .c (.v (.int .i64 20))] ∧ bs = [] ∧ g' = g) 0 ⟨rfl, rfl, rfl⟩ ?_
  rintro m vs bs' g' ⟨rfl, rfl, rfl⟩
  refine vc_if 100 rfl rfl rfl (fun h => by cases h) (fun _ => ?_)
  refine vc_call 100 rfl rfl rfl (insertion0_ct A c f cp _) ?_
  rintro v g2 - rfl
  refine vc_loop 100 rfl [0, 1, 2, 6] (fun m vs bs g' => vs = [.c (.v (.slice A 0 c)), .c (.v (.int .i64 0)), .c (.v (.func (.func f) #[] cp)), .c (.v (.int .i64 20))] ∧ bs = [] ∧ g' = _) 0 ⟨rfl, rfl, rfl⟩ ?_
  rintro m vs bs' g' ⟨rfl, rfl, rfl⟩
  refine vc_if 100 rfl rfl rfl (fun h => by cases h) (fun _ => ?_)
  exact vc_end0 100 rfl rfl rfl
theorem sortStable0_ct : Ct Tryz.prog 121 [.slice A 0 c, .func (.func f) #[] cp] g (fun _ g' => g' = g) := by
  refine enter ok121 (by simp) fun W => ?_
  refine vc_call 100 rfl rfl rfl (stable0_ct A c f cp _) ?_
  rintro v g2 - rfl
  exact vc_end0 100 rfl rfl rfl
end

/-- l' has the photos of l in the order of a question. -/
def SortedOf (s : List Srt) (l l' : List Pho) : Prop := l'.Perm l ∧ l'.Pairwise fun a b => ¬ orderI s b a < 0
theorem phosNil (g : Gh) (A : Option Addr) (c : Nat) (h : c ≤ 9223372036854775807) : PhosV g (.slice A 0 c) [] := ⟨A, c, rfl, ⟨Nat.zero_le _, h⟩, fun i x hx => by simp [nth] at hx⟩
theorem rows_ph {g : Gh} {css : List (List Value)} {l : List Pho} (h : RowsOf g css l) : css.map (phOf g) = l := by
  apply List.ext_getElem (by rw [List.length_map]; exact h.1)
  intro i hi hj
  have hi' : i < css.length := by rwa [List.length_map] at hi
  obtain ⟨p, a, b⟩ := h.2 i _ (nth_get hi')
  rw [nth_get hj] at a; injection a with a
  rw [List.getElem_map, phOf_spec b, a]
theorem ph_rows {g : Gh} {css : List (List Value)} (h : ∀ cs ∈ css, PhoS g cs) : RowsOf g css (css.map (phOf g)) := by
  refine ⟨by simp, fun j cs hj => ⟨phOf g cs, by rw [nth_map, hj]; rfl, ?_⟩⟩
  obtain ⟨p, hp, _⟩ := h cs (nth_mem hj)
  rw [phOf_spec hp]; exact hp

theorem sorted_ct {g : Gh} {v : Value} {β c0 : Nat} {A0 : Option Addr} (s : List Srt) (l : List Pho) (hq : g β 6 = some (.slice A0 s.length c0)) (hs : Sl g 2 SrtR (.slice A0 s.length c0) s) (hv : PhosV g v l) (hn : ∀ p ∈ l, PhoN p) (hl : l.length ≤ 1000) (hpl : PlainS v) :
    Ct Tryz.prog 83 [v, .func (.func 84) #[] #[.pointer (some ⟨β, 0, none⟩)]] g (fun r g' => ∃ l', SortedOf s l l' ∧ PhosV g' r l') := by
  have hv0 := hv
  obtain ⟨A, c, rfl, hlen, hat⟩ := hv
  cases l with
  | nil =>
    have done : ∀ (B : Option Addr) (m : Nat), m ≤ 9223372036854775807 → ∀ g', ∃ l', SortedOf s [] l' ∧ PhosV g' (.slice B 0 m) l' := fun B m hm g' => ⟨[], ⟨.refl _, .nil⟩, phosNil g' B m hm⟩
    refine enter ok83 (by simp) fun W => ?_
    rcases hpl with ⟨n', c', e⟩ | ⟨β', off, n', c', e⟩ <;> injection e with e1 e2 e3 <;> subst e1
    · refine vc_call 100 rfl rfl rfl (cloneNil_ct c _) ?_; rintro _ g1 - ⟨rfl, rfl⟩
      refine vc_call 100 rfl rfl rfl (sortStable0_ct none 0 84 _ _) ?_; rintro _ g2 - rfl
      refine vc_call 100 rfl rfl rfl (clipPhos_ct none 0 0 _ (by omega)) ?_; rintro _ g3 - ⟨rfl, rfl⟩
      exact vc_ret0 100 rfl rfl (done _ _ (by omega) _)
    · refine vc_call 100 rfl rfl rfl (cloneEmpty_ct β' off c _) ?_; rintro _ g1 - ⟨B, m, rfl, hm⟩
      refine vc_call 100 rfl rfl rfl (sortStable0_ct B m 84 _ _) ?_; rintro _ g2 - rfl
      refine vc_call 100 rfl rfl rfl (clipPhos_ct B 0 m _ (by omega)) ?_; rintro _ g3 - ⟨rfl, rfl⟩
      exact vc_ret0 100 rfl rfl (done _ _ (by omega) _)
  | cons p0 l0 =>
    refine enter ok83 (by simp) fun W => ?_
    refine vc_callN 100 0 rfl rfl rfl rfl (clonePhos_ct _ _ _ hv0 (by simp) hl) ?_
    rintro β1 len cap ty cells g1 - ⟨rfl, h1, h2, rfl, rfl, css, spare, rfl, hrows, hsp⟩
    have hS : ∀ x ∈ css, PhoS _ x := fun x hx => by
      obtain ⟨j, hj⟩ := mem_nth hx
      obtain ⟨p, a, b⟩ := hrows.2 j x hj
      exact ⟨p, b, hn p (nth_mem a)⟩
    refine vc_callO 100 0 rfl rfl rfl rfl _ (concL_vals' _ _) (sortStable13_ct (photoX s hq hs) css hS hrows.1.symm (by omega)) ?_
    rintro v cells' g9 - ⟨M, p1, s1, rfl, rfl⟩
    refine vc_call 100 rfl rfl rfl (clipPhos_ct (some ⟨β1, 0, none⟩) _ cap _ h1) ?_; rintro _ g3 - ⟨rfl, rfl⟩
    refine vc_ret 100 rfl rfl fun g' hle hpub => ?_
    have hMS : ∀ x ∈ M, PhoS _ x := fun x hx => hS x (p1.mem_iff.1 hx)
    have hR := (ph_rows hMS).mono hle
    have hph := rows_ph hrows
    have hperm : (M.map (phOf g3)).Perm (p0 :: l0) := by rw [← hph]; exact p1.map _
    have hlenM : (M.map (phOf g3)).length = (p0 :: l0).length := hperm.length_eq
    refine ⟨M.map (phOf g3), ⟨hperm, ?_⟩, ?_⟩
    · exact List.pairwise_map.2 s1
    · have := rows_phos (cap := (p0 :: l0).length) (sp := spare.map C1.v) hR hpub (i := 0) (β := β1) (ty := 127) (by
        show some _ = some _
        rw [rowsC, List.map_append]) (by omega) (by omega)
      rw [hlenM] at this
      rw [cutA_zero]
      exact this

end Go.Proofs.YtmolncgdehfejaaGreatDoor

/- Contracts: the answer to a question. -/
namespace Go.Proofs.YtmolncgdehfejaaGreatDoor
open Go
set_option maxRecDepth 10000

theorem question_parts {q : Qst} (h : checkQuestionI q = 0) : checkCondI q.cond = 0 ∧ q.sorts.length ≤ 5 ∧ checkSortsFrom q.sorts 0 q.sorts = 0 ∧ (0 ≤ q.from_ ∧ q.from_ ≤ 1000) ∧ (0 ≤ q.most ∧ q.most ≤ 1000) := by
  unfold checkQuestionI at h
  obtain ⟨h1, h2⟩ := andThen_zero h
  split at h2
  · rename_i h3
    obtain ⟨h4, h5⟩ := andThen_zero h2
    split at h5
    · cases h5
    · rename_i h6
      simp only [Bool.or_eq_true, not_or, Bool.not_eq_true] at h6
      exact ⟨h1, h3, h4, outF h6.1, outF h6.2⟩
  · cases h2

/-- The part of a list that a question leaves. -/
def windowI {α : Type} (f m : Int) (l : List α) : List α := if m > 0 then (l.drop f.toNat).take m.toNat else l.drop f.toNat

theorem minI (a b : Nat) : (if ((b : Nat) : Int) < ((a : Nat) : Int) then ((b : Nat) : Int) else ((a : Nat) : Int)) = ((min a b : Nat) : Int) := by split <;> omega

theorem ask_ct {g : Gh} {v w : Value} (l : List Pho) (q : Qst) (hv : PhosV g v l) (hn : ∀ p ∈ l, PhoN p) (hl : l.length ≤ 1000) (hw : QstV g w q) (hq : checkQuestionI q = 0) (hm : MaxL g) :
    Ct Tryz.prog 55 [v, w] g (fun r g' => ∃ l', SortedOf q.sorts (l.filter (holdsB q.cond)) l' ∧ Sl g' 1 IntR r ((windowI q.from_ q.most l').map (·.id))) := by
  obtain ⟨q1, -, -, ⟨f1, f2⟩, ⟨m1, m2⟩⟩ := question_parts hq
  obtain ⟨cond, sorts, from_, most⟩ := q
  obtain ⟨f, rfl⟩ : ∃ f : Nat, from_ = f := ⟨from_.toNat, by simp only at f1; omega⟩
  obtain ⟨m, rfl⟩ : ∃ m : Nat, most = m := ⟨most.toNat, by simp only at m1; omega⟩
  obtain ⟨cells, vs, rfl, hc, hs, -⟩ := hw
  have hcv : CndV g (.agg cells.toArray) cond := ⟨cells, rfl, hc⟩
  have hcw := cndW q1
  simp only at q1 f2 m2 hs hcw
  obtain ⟨op, kids, text, low, high, pl⟩ := cond
  obtain ⟨A1, c1, A2, c2, rfl, _⟩ := hc.parts
  obtain ⟨A3, c3, rfl, -⟩ := id hs
  have hv0 := hv
  obtain ⟨A, c, rfl, -⟩ := hv
  refine enter ok55 (by simp) fun W => ?_
  refine vc_box 100 0 rfl rfl rfl rfl fun β => ?_
  refine vc_pub 0 0 rfl rfl rfl _ rfl fun g1 hle1 hrow1 => ?_
  refine vc_val 0 3 rfl rfl rfl ?_
  refine vc_ldn 100 [.int .i64 op, .slice A1 kids.length c1, .string text, .int .i64 low, .int .i64 high, .slice A2 pl.length c2] rfl rfl rfl rfl (fun j u hj => hrow1 j u (by
    have := nth_lt hj
    match j, this with
    | 0, _ => exact hj
    | 1, _ => exact hj
    | 2, _ => exact hj
    | 3, _ => exact hj
    | 4, _ => exact hj
    | 5, _ => exact hj)) ?_
  refine vc_call 100 rfl rfl rfl (nodeOf_ct _ _ _ (hcv.mono hle1) hcw (hm.mono hle1)) ?_
  rintro nv g2 hle2 hnode
  obtain ⟨T, x, fn, rfl, _⟩ := id hnode
  refine vc_call 100 rfl rfl rfl (holdingP_ct _ _ l _ _ ((hv0.mono hle1).mono hle2) hn hl hnode) ?_
  rintro s g3 hle3 ⟨hs3, hplain⟩
  obtain ⟨B, d, rfl, -⟩ := id hs3
  have hlef : (l.filter (holdsB (.mk op kids text low high pl))).length ≤ 1000 := Nat.le_trans (List.length_filter_le _ _) hl
  have hq6 : g3 β 6 = some (.slice A3 sorts.length c3) := hle3 _ _ _ (hle2 _ _ _ (by simpa using hrow1 6 _ rfl))
  have hs' := ((hs.mono hle1 fun _ _ h => h).mono hle2 fun _ _ h => h).mono hle3 fun _ _ h => h
  refine vc_call 100 rfl rfl rfl (sorted_ct sorts _ hq6 hs' hs3 (fun p hp => hn p (List.mem_filter.1 hp).1) hlef hplain) ?_
  rintro r g4 hle4 ⟨l', hso, hr⟩
  obtain ⟨C, e, rfl, hle, -⟩ := id hr
  have hll : l'.length ≤ 1000 := by rw [hso.1.length_eq]; exact hlef
  have hrow4 : Row g4 β 0 _ := ((hrow1.mono hle2).mono hle3).mono hle4
  refine vc_ld1 100 rfl rfl rfl (v := .int .i64 ((f : Nat) : Int)) (by simpa using hrow4 7 _ rfl) ?_
  refine vc_min 100 rfl rfl rfl rfl rfl rfl ?_
  rw [minI]
  refine vc_slg 100 (min f l'.length) l'.length e rfl rfl rfl ⟨_, rfl⟩ rfl rfl (by omega) hle.1 (Nat.le_refl _) ?_
  refine vc_ld1 100 rfl rfl rfl (v := .int .i64 ((m : Nat) : Int)) (by simpa using hrow4 8 _ rfl) ?_
  have hcut := Sl.cut hr (p := min f l'.length) (q := l'.length) (r := e) (by omega) (Nat.le_refl _) hle.1 (Nat.le_refl _)
  have hd : (l'.drop (min f l'.length)).take (l'.length - min f l'.length) = l'.drop f := by
    rw [List.take_of_length_le (by rw [List.length_drop]; omega)]
    rcases Nat.lt_or_ge f l'.length with h | h
    · rw [Nat.min_eq_left (by omega)]
    · rw [Nat.min_eq_right h, List.drop_length, List.drop_eq_nil_of_le h]
  rw [hd] at hcut
  have hdl : (l'.drop f).length = l'.length - min f l'.length := by rw [List.length_drop]; omega
  rw [← hdl] at hcut ⊢
  refine vc_if 100 rfl rfl rfl (fun h => ?_) (fun h => ?_)
  · have hm0 : 0 < m := by have := of_decide_eq_true h; omega
    refine vc_ld1 100 rfl rfl rfl (v := .int .i64 ((m : Nat) : Int)) (by simpa using hrow4 8 _ rfl) ?_
    refine vc_min 100 rfl rfl rfl rfl rfl rfl ?_
    rw [minI]
    have hdc : (l'.drop f).length ≤ e - min f l'.length := by omega
    refine vc_slg 100 0 (min m (l'.drop f).length) (e - min f l'.length) rfl rfl rfl rfl ⟨_, rfl⟩ rfl (by omega) (by omega) (Nat.le_refl _) ?_
    have hcut2 := Sl.cut hcut (p := 0) (q := min m (l'.drop f).length) (r := e - min f l'.length) (by omega) (by omega) (by omega) (Nat.le_refl _)
    rw [List.drop_zero, Nat.sub_zero] at hcut2
    have ht : (l'.drop f).take (min m (l'.drop f).length) = (l'.drop f).take m := by rw [List.take_eq_take_iff]; omega
    rw [ht] at hcut2
    rw [Nat.sub_zero]
    have hwin : windowI ((f : Nat) : Int) ((m : Nat) : Int) l' = (l'.drop f).take m := by
      rw [windowI, if_pos (by omega)]; rfl
    refine vc_call 100 rfl rfl rfl (ids_ct _ _ _ hcut2 (by rw [List.length_take]; omega)) ?_
    rintro r g5 hle5 hr5
    obtain ⟨D, k, rfl, -⟩ := id hr5
    refine vc_ret0 100 rfl rfl ⟨l', hso, ?_⟩
    rw [hwin]; exact hr5
  · have hm0 : m = 0 := by have := of_decide_eq_false h; omega
    have hwin : windowI ((f : Nat) : Int) ((m : Nat) : Int) l' = l'.drop f := by
      rw [windowI, if_neg (by omega)]; rfl
    refine vc_call 100 rfl rfl rfl (ids_ct _ _ _ hcut (by omega)) ?_
    rintro r g5 hle5 hr5
    obtain ⟨D, k, rfl, -⟩ := id hr5
    refine vc_ret0 100 rfl rfl ⟨l', hso, ?_⟩
    rw [hwin]; exact hr5

end Go.Proofs.YtmolncgdehfejaaGreatDoor

/- Lists that lie in rows: flat, and handed over. No program stands in it. -/
namespace Go.Proofs.YtmolncgdehfejaaGreatDoor
open Go Go.RowKit

/-- Rows of cells that read as a list. -/
def RowsR {α : Type} (size : Nat) (R : List Value → α → Prop) (css : List (List Value)) (xs : List α) : Prop :=
  css.length = xs.length ∧ ∀ i x, nth xs i = some x → ∃ cs, nth css i = some cs ∧ cs.length = size ∧ R cs x
theorem RowsR.mono {α : Type} {size : Nat} {R R' : List Value → α → Prop} {css : List (List Value)} {xs : List α} (h : RowsR size R css xs) (hr : ∀ cs x, R cs x → R' cs x) : RowsR size R' css xs :=
  ⟨h.1, fun i x hx => let ⟨cs, a, b, c⟩ := h.2 i x hx; ⟨cs, a, b, hr _ _ c⟩⟩
theorem RowsR.len {α : Type} {size : Nat} {R : List Value → α → Prop} {css : List (List Value)} {xs : List α} (h : RowsR size R css xs) : ∀ cs ∈ css, cs.length = size := fun cs hc => by
  obtain ⟨j, hj⟩ := mem_nth hc
  have hlt := nth_lt hj
  rw [h.1] at hlt
  obtain ⟨cs', a, b, _⟩ := h.2 j _ (nth_get hlt)
  rw [hj] at a; injection a with a; subst a; exact b
theorem RowsR.at {α : Type} {size : Nat} {R : List Value → α → Prop} {css : List (List Value)} {xs : List α} (h : RowsR size R css xs) {cs : List Value} (hc : cs ∈ css) : ∃ x ∈ xs, R cs x := by
  obtain ⟨j, hj⟩ := mem_nth hc
  have hlt := nth_lt hj
  rw [h.1] at hlt
  obtain ⟨cs', a, b, c⟩ := h.2 j _ (nth_get hlt)
  rw [hj] at a; injection a with a; subst a; exact ⟨_, List.getElem_mem _, c⟩
theorem RowsR.nil {α : Type} {size : Nat} {R : List Value → α → Prop} : RowsR size R [] ([] : List α) := ⟨rfl, fun i x h => by simp [nth] at h⟩
theorem RowsR.snoc {α : Type} {size : Nat} {R : List Value → α → Prop} {css : List (List Value)} {xs : List α} (h : RowsR size R css xs) {cs : List Value} {x : α} (hl : cs.length = size) (hx : R cs x) : RowsR size R (css ++ [cs]) (xs ++ [x]) := by
  refine ⟨by simp [h.1], fun i y hy => ?_⟩
  rw [nth_append] at hy ⊢
  rw [h.1]
  split at hy
  · rename_i hlt; rw [if_pos hlt]; exact h.2 i y hy
  · rename_i hge
    rw [if_neg hge]
    have := nth_lt hy
    simp only [List.length_singleton] at this
    rw [show i - xs.length = 0 by omega] at hy ⊢
    simp only [nth, Option.some.injEq] at hy ⊢
    subst hy; exact ⟨cs, rfl, hl, hx⟩
theorem RowsR.append {α : Type} {size : Nat} {R : List Value → α → Prop} {css ds : List (List Value)} {xs ys : List α} (h : RowsR size R css xs) (k : RowsR size R ds ys) : RowsR size R (css ++ ds) (xs ++ ys) := by
  refine ⟨by rw [List.length_append, List.length_append, h.1, k.1], fun i y hy => ?_⟩
  rw [nth_append] at hy ⊢
  rw [h.1]
  split at hy
  · rename_i hlt; rw [if_pos hlt]; exact h.2 i y hy
  · rename_i hge; rw [if_neg hge]; exact k.2 _ y hy
theorem rowsR_exist {α : Type} {g : Gh} {β size : Nat} {R : List Value → α → Prop} : ∀ (xs : List α) (off : Nat), (∀ i x, nth xs i = some x → ∃ cs, lenIs cs size = true ∧ Row g β (off + i * size) cs ∧ R cs x) →
    ∃ css, RowsR size R css xs ∧ ∀ q cs, nth css q = some cs → Row g β (off + q * size) cs
  | [], _, _ => ⟨[], RowsR.nil, fun q cs h => by simp [nth] at h⟩
  | x :: xs, off, h => by
    obtain ⟨cs, h1, h2, h3⟩ := h 0 x rfl
    obtain ⟨css, ⟨r1, r2⟩, k⟩ := rowsR_exist xs (off + size) fun i y hy => by
      obtain ⟨ds, a, b, c⟩ := h (i + 1) y (by simpa [nth] using hy)
      exact ⟨ds, a, by rwa [show off + (i + 1) * size = off + size + i * size by rw [Nat.succ_mul]; omega] at b, c⟩
    refine ⟨cs :: css, ⟨by simp [r1], fun i y hy => ?_⟩, fun q ds hq => ?_⟩
    · cases i with
      | zero => simp only [nth, Option.some.injEq] at hy; subst hy; exact ⟨cs, rfl, lenIs_eq _ _ h1, h3⟩
      | succ i => exact r2 i y (by simpa [nth] using hy)
    · cases q with
      | zero => simp only [nth, Option.some.injEq] at hq; subst hq; simpa using h2
      | succ q =>
        have := k q ds (by simpa [nth] using hq)
        rwa [show off + size + q * size = off + (q + 1) * size by rw [Nat.succ_mul]; omega] at this
/-- What a slice reads as lies in a row. -/
theorem Sl.flat {α : Type} {g : Gh} {size c : Nat} {R : List Value → α → Prop} {A : Option Addr} {n : Nat} {xs : List α} (h : Sl g size R (.slice A n c) xs) (hne : 0 < xs.length) :
    ∃ β off css, A = some ⟨β, off, none⟩ ∧ RowsR size R css xs ∧ css.flatten.length = xs.length * size ∧ Row g β off css.flatten := by
  obtain ⟨A', c', e, -, hat⟩ := h
  injection e with e1 e2 e3; subst e1
  obtain ⟨β, off, _, rfl, _⟩ := hat 0 xs[0] (nth_get hne)
  obtain ⟨css, hr, hrow⟩ := rowsR_exist (g := g) (β := β) (size := size) (R := R) xs off fun i x hx => by
    obtain ⟨β', off', cs, e, a, b, d⟩ := hat i x hx
    injection e with e; injection e with e1 e2; subst e1 e2
    exact ⟨cs, a, b, d⟩
  refine ⟨β, off, css, rfl, hr, by rw [flat_length size css hr.len, hr.1], fun j u hj => ?_⟩
  obtain ⟨q, o, cs, rfl, a, b⟩ := flat_inv size css hr.len j u hj
  have := hrow q cs a o u b
  rwa [Nat.add_assoc] at this
/-- An own row that is handed over reads as a list. -/
theorem Sl.pub {α : Type} {g' : Gh} {bs : List Bx} {size : Nat} {R : List Value → α → Prop} {css : List (List Value)} {xs : List α} {i β ty cap : Nat} {sp : List C1} (h : RowsR size R css xs) (hpub : Pub bs g') (hb : nth bs i = some ⟨some β, ty, css.flatten.map .v ++ sp, true⟩) (h1 : xs.length ≤ cap) (h2 : cap ≤ 9223372036854775807) :
    Sl g' size R (.slice (some ⟨β, 0, none⟩) xs.length cap) xs := by
  refine ⟨_, cap, rfl, ⟨h1, h2⟩, fun j x hj => ?_⟩
  obtain ⟨cs, a, b, c⟩ := h.2 j x hj
  refine ⟨β, 0, cs, rfl, lenIs_of _ _ b, fun o u ho => ?_, c⟩
  have hf := flat_nth size css h.len j _ a o u ho
  refine hpub i _ β hb rfl rfl (0 + j * size + o) (.v u) u ?_ rfl
  rw [Nat.zero_add, nth_append, if_pos (by rw [List.length_map]; exact nth_lt hf), nth_map, hf]; rfl
/-- The same of a row that lies there. -/
theorem Sl.row {α : Type} {g : Gh} {size : Nat} {R : List Value → α → Prop} {css : List (List Value)} {xs : List α} {β off cap : Nat} (h : RowsR size R css xs) (hrow : Row g β off css.flatten) (h1 : xs.length ≤ cap) (h2 : cap ≤ 9223372036854775807) :
    Sl g size R (.slice (some ⟨β, off, none⟩) xs.length cap) xs := by
  refine ⟨_, cap, rfl, ⟨h1, h2⟩, fun j x hj => ?_⟩
  obtain ⟨cs, a, b, c⟩ := h.2 j x hj
  refine ⟨β, off, cs, rfl, lenIs_of _ _ b, fun o u ho => ?_, c⟩
  have hf := flat_nth size css h.len j _ a o u ho
  rw [Nat.add_assoc]; exact hrow _ u hf
theorem Sl.empty {α : Type} (g : Gh) (size : Nat) (R : List Value → α → Prop) (A : Option Addr) (c : Nat) (h : c ≤ 9223372036854775807) : Sl g size R (.slice A 0 c) ([] : List α) :=
  ⟨A, c, rfl, ⟨Nat.zero_le _, h⟩, fun i x hx => by simp [nth] at hx⟩

/-- Cells that one may lie in: of the plain readings. -/
def OneR {α : Type} (R : List Value → α → Prop) : Prop := ∀ cs x, R cs x → allOne (cs.map C1.v) = true
theorem plc_oneR : OneR PlcR := by rintro _ x ⟨rfl, _⟩; rfl
theorem str_oneR : OneR StrR := by rintro _ x ⟨rfl, _⟩; rfl
theorem int_oneR : OneR IntR := by rintro _ x ⟨rfl, _⟩; rfl
theorem srt_oneR : OneR SrtR := by rintro _ x ⟨rfl, _⟩; rfl
theorem allOne_append (a b : List C1) : allOne a = true → allOne b = true → allOne (a ++ b) = true := by
  induction a with
  | nil => intro _ h; exact h
  | cons x a ih =>
    intro h k
    simp only [allOne, List.cons_append] at h ⊢
    split at h
    · rename_i hx; exact ih h k
    · cases h
theorem RowsR.one {α : Type} {size : Nat} {R : List Value → α → Prop} {css : List (List Value)} {xs : List α} (h : RowsR size R css xs) (ho : OneR R) : allOne (css.flatten.map C1.v) = true := by
  have : ∀ (l : List (List Value)), (∀ c ∈ l, allOne (c.map C1.v) = true) → allOne (l.flatten.map C1.v) = true := by
    intro l
    induction l with
    | nil => intro _; rfl
    | cons c l ih =>
      intro hl
      rw [List.flatten_cons, List.map_append]
      exact allOne_append _ _ (hl c (by simp)) (ih fun d hd => hl d (by simp [hd]))
  refine this css fun c hc => ?_
  obtain ⟨x, _, hx⟩ := h.at hc
  exact ho c x hx

end Go.Proofs.YtmolncgdehfejaaGreatDoor

/- Contracts: clones and clips of lists. -/
namespace Go.Proofs.YtmolncgdehfejaaGreatDoor
open Go
set_option maxRecDepth 10000

theorem u24s : Tryz.prog.underlying 24 = some (.slice 69) := by kernel_rfl
theorem clonePlc_ct (v : Value) (xs : List Plc) (g : Gh) (hv : Sl g 2 PlcR v xs) (hb : xs.length ≤ 1000000000) : Ct Tryz.prog 63 [v] g (fun r g' => Sl g' 2 PlcR r xs) := by
  have hv0 := hv
  obtain ⟨A, c, rfl, hlen, hat⟩ := hv
  refine enter ok63 (by simp) fun W => ?_
  refine vc_eqnil 100 rfl rfl rfl u24s ?_
  rcases Nat.eq_zero_or_pos xs.length with h0 | h0
  · obtain rfl : xs = [] := List.eq_nil_of_length_eq_zero h0
    cases A with
    | none =>
      refine vc_if 100 rfl rfl rfl (fun _ => ?_) (fun h => by cases h)
      exact vc_ret0 100 rfl rfl (Sl.empty _ _ _ _ _ (by omega))
    | some B =>
      refine vc_if 100 rfl rfl rfl (fun h => by cases h) (fun _ => ?_)
      refine vc_bslice 100 0 rfl rfl rfl rfl rfl fun β1 => ?_
      refine vc_appendA 100 1 [] [] [] rfl rfl rfl rfl rfl rfl ⟨rfl, Nat.le_refl _, Nat.zero_le _, rfl, fun e => by cases e⟩ rfl rfl (.inl rfl) rfl (by decide) rfl (by omega) (.inr (by simp)) (by simp only [maxLen]; omega) (by omega) fun β2 cap spare hrow2 => ?_
      have h2 := hrow2.2.2.1
      exact vc_ret0 100 rfl rfl (Sl.empty _ _ _ _ _ (by simp only [maxLen] at h2; omega))
  · obtain ⟨β, off, css, rfl, hr, hl, hrow⟩ := hv0.flat h0
    refine vc_if 100 rfl rfl rfl (fun h => by cases h) (fun _ => ?_)
    refine vc_bslice 100 0 rfl rfl rfl rfl rfl fun β1 => ?_
    refine vc_appendg 100 1 [] [] css.flatten rfl rfl rfl rfl rfl rfl ⟨rfl, Nat.le_refl _, Nat.zero_le _, rfl, fun e => by cases e⟩ rfl hl hrow (hr.one plc_oneR) (by decide) rfl (by omega) (.inl h0) (by simp only [maxLen]; omega) (by omega) fun β2 cap spare hrow2 => ?_
    have h1 := hrow2.2.1
    have h2 := hrow2.2.2.1
    refine vc_ret 100 rfl rfl fun g' hle hpub => ?_
    have := Sl.pub (g' := g') (i := 1) (β := β2) (ty := 69) (cap := cap) (sp := spare.map .v) hr hpub rfl (by omega) (by simp only [maxLen] at h2; omega)
    rw [Nat.zero_add]; exact this

theorem u119s : Tryz.prog.underlying 119 = some (.slice 9) := by kernel_rfl
theorem cloneStr_ct (v : Value) (xs : List ByteArray) (g : Gh) (hv : Sl g 1 StrR v xs) (hb : xs.length ≤ 1000000000) : Ct Tryz.prog 125 [v] g (fun r g' => Sl g' 1 StrR r xs) := by
  have hv0 := hv
  obtain ⟨A, c, rfl, hlen, hat⟩ := hv
  refine enter ok125 (by simp) fun W => ?_
  refine vc_eqnil 100 rfl rfl rfl u119s ?_
  rcases Nat.eq_zero_or_pos xs.length with h0 | h0
  · obtain rfl : xs = [] := List.eq_nil_of_length_eq_zero h0
    cases A with
    | none =>
      refine vc_if 100 rfl rfl rfl (fun _ => ?_) (fun h => by cases h)
      exact vc_ret0 100 rfl rfl (Sl.empty _ _ _ _ _ (by omega))
    | some B =>
      refine vc_if 100 rfl rfl rfl (fun h => by cases h) (fun _ => ?_)
      refine vc_bslice 100 0 rfl rfl rfl rfl rfl fun β1 => ?_
      refine vc_appendA 100 1 [] [] [] rfl rfl rfl rfl rfl rfl ⟨rfl, Nat.le_refl _, Nat.zero_le _, rfl, fun e => by cases e⟩ rfl rfl (.inl rfl) rfl (by decide) rfl (by omega) (.inr (by simp)) (by simp only [maxLen]; omega) (by omega) fun β2 cap spare hrow2 => ?_
      have h2 := hrow2.2.2.1
      exact vc_ret0 100 rfl rfl (Sl.empty _ _ _ _ _ (by simp only [maxLen] at h2; omega))
  · obtain ⟨β, off, css, rfl, hr, hl, hrow⟩ := hv0.flat h0
    refine vc_if 100 rfl rfl rfl (fun h => by cases h) (fun _ => ?_)
    refine vc_bslice 100 0 rfl rfl rfl rfl rfl fun β1 => ?_
    refine vc_appendg 100 1 [] [] css.flatten rfl rfl rfl rfl rfl rfl ⟨rfl, Nat.le_refl _, Nat.zero_le _, rfl, fun e => by cases e⟩ rfl hl hrow (hr.one str_oneR) (by decide) rfl (by omega) (.inl h0) (by simp only [maxLen]; omega) (by omega) fun β2 cap spare hrow2 => ?_
    have h1 := hrow2.2.1
    have h2 := hrow2.2.2.1
    refine vc_ret 100 rfl rfl fun g' hle hpub => ?_
    have := Sl.pub (g' := g') (i := 1) (β := β2) (ty := 9) (cap := cap) (sp := spare.map .v) hr hpub rfl (by omega) (by simp only [maxLen] at h2; omega)
    rw [Nat.zero_add]; exact this

theorem u33s : Tryz.prog.underlying 33 = some (.slice 3) := by kernel_rfl
theorem cloneInt_ct (v : Value) (xs : List Int) (g : Gh) (hv : Sl g 1 IntR v xs) (hb : xs.length ≤ 1000000000) : Ct Tryz.prog 126 [v] g (fun r g' => Sl g' 1 IntR r xs) := by
  have hv0 := hv
  obtain ⟨A, c, rfl, hlen, hat⟩ := hv
  refine enter ok126 (by simp) fun W => ?_
  refine vc_eqnil 100 rfl rfl rfl u33s ?_
  rcases Nat.eq_zero_or_pos xs.length with h0 | h0
  · obtain rfl : xs = [] := List.eq_nil_of_length_eq_zero h0
    cases A with
    | none =>
      refine vc_if 100 rfl rfl rfl (fun _ => ?_) (fun h => by cases h)
      exact vc_ret0 100 rfl rfl (Sl.empty _ _ _ _ _ (by omega))
    | some B =>
      refine vc_if 100 rfl rfl rfl (fun h => by cases h) (fun _ => ?_)
      refine vc_bslice 100 0 rfl rfl rfl rfl rfl fun β1 => ?_
      refine vc_appendA 100 1 [] [] [] rfl rfl rfl rfl rfl rfl ⟨rfl, Nat.le_refl _, Nat.zero_le _, rfl, fun e => by cases e⟩ rfl rfl (.inl rfl) rfl (by decide) rfl (by omega) (.inr (by simp)) (by simp only [maxLen]; omega) (by omega) fun β2 cap spare hrow2 => ?_
      have h2 := hrow2.2.2.1
      exact vc_ret0 100 rfl rfl (Sl.empty _ _ _ _ _ (by simp only [maxLen] at h2; omega))
  · obtain ⟨β, off, css, rfl, hr, hl, hrow⟩ := hv0.flat h0
    refine vc_if 100 rfl rfl rfl (fun h => by cases h) (fun _ => ?_)
    refine vc_bslice 100 0 rfl rfl rfl rfl rfl fun β1 => ?_
    refine vc_appendg 100 1 [] [] css.flatten rfl rfl rfl rfl rfl rfl ⟨rfl, Nat.le_refl _, Nat.zero_le _, rfl, fun e => by cases e⟩ rfl hl hrow (hr.one int_oneR) (by decide) rfl (by omega) (.inl h0) (by simp only [maxLen]; omega) (by omega) fun β2 cap spare hrow2 => ?_
    have h1 := hrow2.2.1
    have h2 := hrow2.2.2.1
    refine vc_ret 100 rfl rfl fun g' hle hpub => ?_
    have := Sl.pub (g' := g') (i := 1) (β := β2) (ty := 3) (cap := cap) (sp := spare.map .v) hr hpub rfl (by omega) (by simp only [maxLen] at h2; omega)
    rw [Nat.zero_add]; exact this

theorem clipPlc_ct {α : Type} {R : List Value → α → Prop} (v : Value) (xs : List α) (g : Gh) (hv : Sl g 2 R v xs) : Ct Tryz.prog 123 [v] g (fun r g' => Sl g' 2 R r xs ∧ g' = g) := by
  have hv0 := hv
  obtain ⟨A, c, rfl, hlen, -⟩ := hv
  refine enter ok123 (by simp) fun W => ?_
  refine vc_slg 100 0 xs.length xs.length rfl rfl rfl rfl ⟨_, rfl⟩ ⟨⟨_, rfl⟩, rfl⟩ (by omega) (by omega) (by omega) ?_
  refine vc_ret0 100 rfl rfl ⟨?_, rfl⟩
  have := Sl.cut hv0 (p := 0) (q := xs.length) (r := xs.length) (by omega) (by omega) (by omega) (by omega)
  rwa [List.drop_zero, Nat.sub_zero, List.take_length] at this

theorem clipStr_ct {α : Type} {R : List Value → α → Prop} (v : Value) (xs : List α) (g : Gh) (hv : Sl g 1 R v xs) : Ct Tryz.prog 124 [v] g (fun r g' => Sl g' 1 R r xs ∧ g' = g) := by
  have hv0 := hv
  obtain ⟨A, c, rfl, hlen, -⟩ := hv
  refine enter ok124 (by simp) fun W => ?_
  refine vc_slg 100 0 xs.length xs.length rfl rfl rfl rfl ⟨_, rfl⟩ ⟨⟨_, rfl⟩, rfl⟩ (by omega) (by omega) (by omega) ?_
  refine vc_ret0 100 rfl rfl ⟨?_, rfl⟩
  have := Sl.cut hv0 (p := 0) (q := xs.length) (r := xs.length) (by omega) (by omega) (by omega) (by omega)
  rwa [List.drop_zero, Nat.sub_zero, List.take_length] at this

theorem clipInts_ct {α : Type} {R : List Value → α → Prop} (v : Value) (xs : List α) (g : Gh) (hv : Sl g 1 R v xs) : Ct Tryz.prog 89 [v] g (fun r g' => Sl g' 1 R r xs ∧ g' = g) := by
  have hv0 := hv
  obtain ⟨A, c, rfl, hlen, -⟩ := hv
  refine enter ok89 (by simp) fun W => ?_
  refine vc_slg 100 0 xs.length xs.length rfl rfl rfl rfl ⟨_, rfl⟩ ⟨⟨_, rfl⟩, rfl⟩ (by omega) (by omega) (by omega) ?_
  refine vc_ret0 100 rfl rfl ⟨?_, rfl⟩
  have := Sl.cut hv0 (p := 0) (q := xs.length) (r := xs.length) (by omega) (by omega) (by omega) (by omega)
  rwa [List.drop_zero, Nat.sub_zero, List.take_length] at this

end Go.Proofs.YtmolncgdehfejaaGreatDoor

/- Contracts: copies of photos; an index; answers to questions. -/
namespace Go.Proofs.YtmolncgdehfejaaGreatDoor
open Go
set_option maxRecDepth 10000

structure PhoLen (p : Pho) : Prop where
  wher : p.wher.length ≤ 1000000000
  tags : p.tags.length ≤ 1000000000
  people : p.people.length ≤ 1000000000

theorem copyPhoto_ct (v : Value) (p : Pho) (g : Gh) (hv : PhoV g v p) (hn : PhoLen p) : Ct Tryz.prog 87 [v] g (fun r g' => PhoV g' r p) := by
  obtain ⟨_, rfl, _, _, _, rfl, h1, h2, h3, hr⟩ := hv
  obtain ⟨A1, c1, rfl, -⟩ := id h1
  obtain ⟨A2, c2, rfl, -⟩ := id h2
  obtain ⟨A3, c3, rfl, -⟩ := id h3
  refine enter ok87 (by simp) fun W => ?_
  refine vc_box 100 0 rfl rfl rfl rfl fun β => ?_
  refine vc_alloc 100 1 rfl rfl rfl fun β1 => ?_
  refine vc_call 100 rfl rfl rfl (clonePlc_ct _ _ _ h1 hn.wher) ?_
  rintro r1 g1 hle1 k1
  obtain ⟨B1, d1, rfl, -⟩ := id k1
  refine vc_call 100 rfl rfl rfl (clipPlc_ct _ _ _ k1) ?_
  rintro q1 _ - ⟨l1, rfl⟩
  obtain ⟨D1, e1, rfl, -⟩ := id l1
  refine vc_call 100 rfl rfl rfl (cloneStr_ct _ _ _ (h2.mono hle1 fun _ _ h => h) hn.tags) ?_
  rintro r2 g2 hle2 k2
  obtain ⟨B2, d2, rfl, -⟩ := id k2
  refine vc_call 100 rfl rfl rfl (clipStr_ct _ _ _ k2) ?_
  rintro q2 _ - ⟨l2, rfl⟩
  obtain ⟨D2, e2, rfl, -⟩ := id l2
  refine vc_call 100 rfl rfl rfl (cloneInt_ct _ _ _ ((h3.mono hle1 fun _ _ h => h).mono hle2 fun _ _ h => h) hn.people) ?_
  rintro r3 g3 hle3 k3
  obtain ⟨B3, d3, rfl, -⟩ := id k3
  refine vc_call 100 rfl rfl rfl (clipInts_ct _ _ _ k3) ?_
  rintro q3 _ - ⟨l3, rfl⟩
  obtain ⟨D3, e3, rfl, -⟩ := id l3
  refine vc_ret0 100 rfl rfl ⟨_, rfl, _, _, _, rfl, (l1.mono hle2 fun _ _ h => h).mono hle3 fun _ _ h => h, l2.mono hle3 fun _ _ h => h, l3, hr⟩

theorem phoR_parts {g : Gh} {cs : List Value} {p : Pho} (h : PhoR g cs p) : cs.length = 13 ∧ allOne (cs.map C1.v) = true := by
  obtain ⟨_, _, _, rfl, ⟨A1, c1, rfl, -⟩, ⟨A2, c2, rfl, -⟩, ⟨A3, c3, rfl, -⟩, -⟩ := h
  exact ⟨rfl, rfl⟩
theorem phos_rows {g : Gh} {css : List (List Value)} {ps : List Pho} (h : RowsR 13 (PhoR g) css ps) : RowsOf g css ps := ⟨h.1, fun j cs hj => by
  have hlt := nth_lt hj
  rw [h.1] at hlt
  obtain ⟨cs', a, _, c⟩ := h.2 j _ (nth_get hlt)
  rw [hj] at a; injection a with a; subst a; exact ⟨_, nth_get hlt, c⟩⟩

theorem copyPhotos_ct (v : Value) (l : List Pho) (g : Gh) (hv : PhosV g v l) (hn : ∀ p ∈ l, PhoLen p) (hl : l.length ≤ 1000) : Ct Tryz.prog 56 [v] g (fun r g' => PhosV g' r l) := by
  obtain ⟨A, c, rfl, hlen, hat⟩ := hv
  refine enter ok56 (by simp) fun W => ?_
  refine vc_nilrow 100 3 0 127 rfl rfl rfl ?_
  refine vc_loop 100 rfl [3, 6, 7, 8] (fun m vs bs g' => ∃ (k : Nat) (css : List (List Value)) (spare : List Value) (blk : Option Nat) (cap : Nat), k ≤ l.length ∧ m = l.length - k ∧
      vs = [.c (.s 0 0 k cap), .c (.v (.slice A l.length c)), .c (.v (.int .i64 (l.length : Int))), .c (.v (.int .i64 (k : Int)))] ∧
      bs = [⟨blk, 127, css.flatten.map .v ++ spare.map .v, true⟩] ∧ Le g g' ∧ RowOk blk 13 k cap (css.flatten.map .v) (spare.map .v) ∧ RowsR 13 (PhoR g') css (l.take k)) l.length
    ⟨0, [], [], none, 0, Nat.zero_le _, rfl, rfl, rfl, Le.refl _, ⟨rfl, Nat.le_refl _, Nat.zero_le _, rfl, fun _ => rfl⟩, RowsR.nil⟩ ?_
  rintro m vs bs' g' ⟨k, css, spare, blk, cap, hkl, rfl, rfl, rfl, hle, hrow, hrows⟩
  refine vc_if 100 rfl rfl rfl (fun h0 => ?_) (fun h0 => ?_)
  · have hlt : k < l.length := by have := of_decide_eq_true h0; omega
    obtain ⟨β', off, cs, rfl, hcs, hrow', hpr⟩ := hat k l[k] (nth_get hlt)
    have hpn := hn l[k] (List.getElem_mem hlt)
    have htake : l.take (k + 1) = l.take k ++ [l[k]] := List.take_succ_eq_append_getElem hlt
    generalize l[k] = p at *
    have hpr0 := hpr.mono hle
    obtain ⟨_, _, _, rfl, ⟨A1, c1, rfl, _⟩, ⟨A2, c2, rfl, _⟩, ⟨A3, c3, rfl, _⟩, _⟩ := hpr
    refine vc_ia 100 rfl rfl rfl rfl (by omega) (by omega) ?_
    refine vc_ldn 100 _ rfl rfl rfl rfl (hrow'.mono hle) ?_
    refine vc_alloc 100 1 rfl rfl rfl fun β4 => ?_
    refine vc_call 100 rfl rfl rfl (copyPhoto_ct _ p _ ⟨_, rfl, hpr0⟩ hpn) ?_
    rintro _ g1 hle1 ⟨ds, rfl, hds⟩
    obtain ⟨_, _, _, rfl, ⟨B1, d1, rfl, _⟩, ⟨B2, d2, rfl, _⟩, ⟨B3, d3, rfl, _⟩, _⟩ := id hds
    refine vc_bslice 100 2 rfl rfl rfl rfl rfl fun β5 => ?_
    refine vc_append 100 3 (css.flatten.map .v) (spare.map .v) (news := (phoC p B1 d1 B2 d2 B3 d3).map .v) rfl rfl rfl rfl rfl rfl hrow rfl rfl rfl rfl (by decide) rfl (by omega) (by omega) (by simp only [maxLen]; omega) (by omega) fun β6 cap' spare' hrow2 => ?_
    refine vc_arith 100 rfl rfl rfl rfl rfl ((k + 1 : Nat) : Int) (wr (by omega) (by omega) (by omega)) ?_
    refine vc_fin 100 rfl ⟨l.length - (k + 1), [3], by omega, rfl, k + 1, css ++ [phoC p B1 d1 B2 d2 B3 d3], spare', some β6, cap', by omega, rfl, rfl, ?_, Le.trans hle hle1, ?_, ?_⟩
    · have e6 : List.map (ren [3]) ((css.flatten.map C1.v ++ (phoC p B1 d1 B2 d2 B3 d3).map C1.v) ++ spare'.map C1.v) = (css ++ [phoC p B1 d1 B2 d2 B3 d3]).flatten.map C1.v ++ spare'.map C1.v := by
        rw [List.map_append, List.map_append, ren_vals, ren_vals, ren_vals, List.flatten_append, List.map_append, List.flatten_singleton]
      exact congrArg (fun l => [(⟨some β6, 127, l, true⟩ : Bx)]) e6
    · rw [List.flatten_append, List.flatten_singleton, List.map_append]; exact hrow2
    · rw [htake]; exact (hrows.mono fun _ _ h => h.mono hle1).snoc rfl hds
  · have hkn : k = l.length := by have := of_decide_eq_false h0; omega
    subst hkn
    rw [List.take_length] at hrows
    have hkc := hrow.2.1
    cases blk with
    | none =>
      have hc0 := hrow.2.2.2.2 rfl
      subst hc0
      obtain rfl : l = [] := List.eq_nil_of_length_eq_zero (by omega)
      refine vc_call 100 rfl rfl rfl (clipPhos_ct none 0 0 _ (by omega)) ?_; rintro _ _ - ⟨rfl, rfl⟩
      exact vc_ret0 100 rfl rfl (Sl.empty _ _ _ _ _ (by omega))
    | some β =>
      refine vc_call 100 rfl rfl rfl (clipPhos_ct (some ⟨β, 0, none⟩) l.length cap _ hkc) ?_; rintro _ _ - ⟨rfl, rfl⟩
      refine vc_ret 100 rfl rfl fun g' hle2 hpub => ?_
      rw [cutA_zero]
      exact Sl.pub (hrows.mono fun _ _ h => h.mono hle2) hpub (i := 0) rfl (Nat.le_refl _) (by omega)

theorem phoLen {p : Pho} (h : checkPhotoI p = 0) : PhoLen p := by
  unfold checkPhotoI at h
  split at h; · cases h
  split at h
  · obtain ⟨a1, h⟩ := andThen_zero h
    split at h
    · rename_i hn
      obtain ⟨a2, h⟩ := andThen_zero h
      split at h; · cases h
      unfold checkWordsI at h
      split at h
      · rename_i ht
        obtain ⟨a3, h⟩ := andThen_zero h
        split at h
        · split at h
          · cases h
          · split at h
            · rename_i hp
              exact ⟨by omega, by omega, by omega⟩
            · cases h
        · cases h
      · cases h
    · cases h
  · cases h

end Go.Proofs.YtmolncgdehfejaaGreatDoor

/- Contracts: an index; answers to questions. -/
namespace Go.Proofs.YtmolncgdehfejaaGreatDoor
open Go
set_option maxRecDepth 10000

/-- The answer to a question that is right. -/
def AnswerOf (q : Qst) (l : List Pho) (ids : List Int) : Prop := ∃ l', SortedOf q.sorts (l.filter (holdsB q.cond)) l' ∧ ids = (windowI q.from_ q.most l').map (·.id)
def askE (l : List Pho) (q : Qst) : Int := andThen (checkI l) (checkQuestionI q)

theorem askAll_ct (v w : Value) (l : List Pho) (q : Qst) (g : Gh) (hv : PhosV g v l) (hw : QstV g w q) (hm : MaxL g) :
    Ct Tryz.prog 16 [v, w] g (fun r g' => ∃ s ids, r = .tuple #[s, .int .i64 (askE l q)] ∧ Sl g' 1 IntR s ids ∧ (askE l q ≠ 0 → ids = []) ∧ (askE l q = 0 → AnswerOf q l ids)) := by
  have hv0 := hv
  have hw0 := hw
  obtain ⟨A, n, rfl, _⟩ := hv
  obtain ⟨cells, vs, rfl, hc, hs, -⟩ := hw
  obtain ⟨cond, sorts, from_, most⟩ := q
  obtain ⟨op, kids, text, low, high, pl⟩ := cond
  obtain ⟨A1, c1, A2, c2, rfl, _⟩ := hc.parts
  obtain ⟨A3, c3, rfl, -⟩ := id hs
  refine enter ok16 (by simp) fun W => ?_
  refine vc_box 100 0 rfl rfl rfl rfl fun β => ?_
  refine vc_call 100 rfl rfl rfl (check_ct _ l _ hv0) ?_
  rintro _ g1 hle1 rfl
  refine vc_if 100 rfl rfl rfl (fun h => ?_) (fun h => ?_)
  · have hne := neqB h
    have he : askE l ⟨.mk op kids text low high pl, sorts, from_, most⟩ = checkI l := by rw [askE, andThen, if_neg hne]
    refine vc_ret0 100 rfl rfl ⟨.slice none 0 0, [], ?_, nilInts _, fun _ => rfl, fun e => absurd (he.symm.trans e) hne⟩
    rw [he]; rfl
  have h0 := eqB h
  obtain ⟨hl, hn⟩ := check_all h0
  refine vc_call 100 rfl rfl rfl (checkQuestion_ct _ _ _ (hw0.mono hle1)) ?_
  rintro _ g2 hle2 rfl
  have he : askE l ⟨.mk op kids text low high pl, sorts, from_, most⟩ = checkQuestionI ⟨.mk op kids text low high pl, sorts, from_, most⟩ := by rw [askE, andThen, if_pos h0]
  refine vc_if 100 rfl rfl rfl (fun h => ?_) (fun h => ?_)
  · have hne := neqB h
    refine vc_ret0 100 rfl rfl ⟨.slice none 0 0, [], ?_, nilInts _, fun _ => rfl, fun e => absurd (he.symm.trans e) hne⟩
    rw [he]; rfl
  have hc0 := eqB h
  have hg2 := Le.trans hle1 hle2
  refine vc_call 100 rfl rfl rfl (ask_ct l _ (hv0.mono hg2) hn hl (hw0.mono hg2) hc0 (hm.mono hg2)) ?_
  rintro r g3 hle3 ⟨l', hso, hr⟩
  obtain ⟨B, k, rfl, -⟩ := id hr
  refine vc_ret0 100 rfl rfl ⟨_, _, ?_, hr, fun e => absurd (he.trans hc0) e, fun _ => ⟨l', hso, rfl⟩⟩
  rw [he, hc0]; rfl

/-- An index of photos. -/
def IdxV (g : Gh) (v : Value) (l : List Pho) : Prop := ∃ β s, v = .pointer (some ⟨β, 0, none⟩) ∧ g β 0 = some s ∧ PhosV g s l
theorem IdxV.mono {g g' : Gh} {v : Value} {l : List Pho} (h : IdxV g v l) (hl : Le g g') : IdxV g' v l := by
  obtain ⟨β, s, h1, h2, h3⟩ := h; exact ⟨β, s, h1, hl _ _ _ h2, h3.mono hl⟩
theorem newIndex_ct (v : Value) (l : List Pho) (g : Gh) (hv : PhosV g v l) :
    Ct Tryz.prog 17 [v] g (fun r g' => ∃ x, r = .tuple #[x, .int .i64 (checkI l)] ∧ (checkI l ≠ 0 → x = .pointer none) ∧ (checkI l = 0 → IdxV g' x l)) := by
  have hv0 := hv
  obtain ⟨A, n, rfl, _⟩ := hv
  refine enter ok17 (by simp) fun W => ?_
  refine vc_call 100 rfl rfl rfl (check_ct _ l _ hv0) ?_
  rintro _ g1 hle1 rfl
  refine vc_if 100 rfl rfl rfl (fun h => ?_) (fun h => ?_)
  · have hne := neqB h
    exact vc_ret0 100 rfl rfl ⟨.pointer none, rfl, fun _ => rfl, fun e => absurd e hne⟩
  have h0 := eqB h
  obtain ⟨hl, hn⟩ := check_all h0
  have hck : ∀ p ∈ l, PhoLen p := by
    have h0' := h0
    rw [checkI, if_pos hl] at h0'
    exact fun p hp => phoLen (checkFrom_all _ _ h0' p hp)
  refine vc_call 100 rfl rfl rfl (copyPhotos_ct _ l _ (hv0.mono hle1) hck hl) ?_
  rintro s g2 hle2 hs
  obtain ⟨B, k, rfl, -⟩ := id hs
  refine vc_box 100 0 rfl rfl rfl rfl fun β => ?_
  refine vc_ret 100 rfl rfl fun g' hle hpub => ⟨_, ?_, fun e => absurd h0 e, fun _ => ⟨β, _, rfl, hpub 0 _ β rfl rfl rfl 0 _ _ rfl rfl, hs.mono hle⟩⟩
  rw [h0]; rfl

theorem indexAsk_ct (v w : Value) (l : List Pho) (q : Qst) (g : Gh) (hv : IdxV g v l) (hl0 : checkI l = 0) (hw : QstV g w q) (hm : MaxL g) :
    Ct Tryz.prog 20 [v, w] g (fun r g' => ∃ s ids, r = .tuple #[s, .int .i64 (checkQuestionI q)] ∧ Sl g' 1 IntR s ids ∧ (checkQuestionI q ≠ 0 → ids = []) ∧ (checkQuestionI q = 0 → AnswerOf q l ids)) := by
  have hw0 := hw
  obtain ⟨hl, hn⟩ := check_all hl0
  obtain ⟨βx, sx, rfl, hx0, hxs⟩ := hv
  obtain ⟨cells, vs, rfl, hc, hs, -⟩ := hw
  obtain ⟨cond, sorts, from_, most⟩ := q
  obtain ⟨op, kids, text, low, high, pl⟩ := cond
  obtain ⟨A1, c1, A2, c2, rfl, _⟩ := hc.parts
  obtain ⟨A3, c3, rfl, -⟩ := id hs
  obtain ⟨A, n, rfl, -⟩ := id hxs
  refine enter ok20 (by simp) fun W => ?_
  refine vc_box 100 0 rfl rfl rfl rfl fun β => ?_
  refine vc_call 100 rfl rfl rfl (checkQuestion_ct _ _ _ hw0) ?_
  rintro _ g1 hle1 rfl
  refine vc_if 100 rfl rfl rfl (fun h => ?_) (fun h => ?_)
  · have hne := neqB h
    exact vc_ret0 100 rfl rfl ⟨.slice none 0 0, [], rfl, nilInts _, fun _ => rfl, fun e => absurd e hne⟩
  have hc0 := eqB h
  refine vc_draw mix 100 rfl [3, 5] (fun i f g' => match i with
    | 3 => f 3 = .c (.v (.slice A l.length n))
    | _ => ∃ v ids, f 5 = .c (.v v) ∧ Sl g' 1 IntR v ids ∧ AnswerOf ⟨.mk op kids text low high pl, sorts, from_, most⟩ l ids) rfl rfl (fun f => rfl) ?_ ?_ ?_
  · intro i hi f f' g' g'' hf hl hg
    simp only [List.mem_cons, List.not_mem_nil, or_false] at hi
    rcases hi with rfl | rfl
    · exact (hf 3 (.inl rfl)).trans hg
    · obtain ⟨v, ids, a, b, c⟩ := hg
      exact ⟨v, ids, (hf 5 (.inl rfl)).trans a, b.mono hl fun _ _ h => h, c⟩
  · intro i hi r hr f g' hle hanc
    simp only [List.mem_cons, List.not_mem_nil, or_false] at hi
    rcases hi with rfl | rfl
    · injection hr with hr; subst hr
      refine vc_ld1 100 rfl rfl rfl (hle _ _ _ (hle1 _ _ _ hx0)) ?_
      refine vc_fin 100 rfl ⟨rfl, Le.refl _, fun d hd f' hf' e => ?_⟩
      injection hd with hd; subst hd
      exact e
    · injection hr with hr; subst hr
      have e3 := hanc 3 (by decide) rfl
      have hg := Le.trans hle1 hle
      refine vc_envs [15, 16] [.c (.v (.slice A l.length n)), .g [.v (.int .i64 op), .v (.slice A1 kids.length c1), .v (.string text), .v (.int .i64 low), .v (.int .i64 high), .v (.slice A2 pl.length c2), .v (.slice A3 sorts.length c3), .v (.int .i64 from_), .v (.int .i64 most)]] (by show [f 3, _] = _; rw [e3]; rfl) ?_
      refine vc_call 100 rfl rfl rfl (ask_ct l _ (hxs.mono hg) hn hl (hw0.mono hg) hc0 (hm.mono hg)) ?_
      rintro r g3 hle3 ⟨l', hso, hr⟩
      obtain ⟨B, k, rfl, -⟩ := id hr
      refine vc_fin 100 rfl ⟨rfl, hle3, fun d hd f' hf' e => ?_⟩
      injection hd with hd; subst hd
      exact ⟨_, _, e, hr, l', hso, rfl⟩
  · intro f g' hle hall
    obtain ⟨v, ids, e5, hs5, ha⟩ := hall 5 (by simp)
    obtain ⟨B, k, rfl, -⟩ := id hs5
    refine vc_envs [4, 5] [.c (.v (.slice B ids.length k)), .c (.v (.int .i64 0))] (by show [f 5, _] = _; rw [e5]; rfl) ?_
    refine vc_ret0 100 rfl rfl ⟨_, ids, ?_, hs5, fun e => absurd hc0 e, fun _ => ha⟩
    rw [hc0]; rfl

end Go.Proofs.YtmolncgdehfejaaGreatDoor

/- Contracts: a copy of a condition. -/
namespace Go.Proofs.YtmolncgdehfejaaGreatDoor
open Go
set_option maxRecDepth 10000

mutual
/-- A condition whose lists are not too long. -/
def SmallC : Cnd → Prop
  | .mk _ kids _ _ _ pl => kids.length ≤ 1000000 ∧ pl.length ≤ 1000000 ∧ SmallL kids
def SmallL : List Cnd → Prop
  | [] => True
  | k :: r => SmallC k ∧ SmallL r
end
theorem smallL_iff : ∀ (l : List Cnd), SmallL l ↔ ∀ k ∈ l, SmallC k
  | [] => by rw [SmallL]; simp
  | x :: r => by rw [SmallL, smallL_iff r]; simp
theorem fPl_le (op : Int) : fPl op ≤ 2 := by
  unfold fPl; split <;> (try split) <;> omega
mutual
theorem cndW_small : ∀ (c : Cnd), CndW c → SmallC c
  | .mk op kids text low high pl, h => by
    rw [CndW] at h
    rw [SmallC]
    obtain ⟨_, _, h3, h4, h5⟩ := h
    refine ⟨by omega, ?_, kidsW_small kids h5⟩
    have hp : (pl.length : Int) = fPl op := (plOk h3).1
    have := fPl_le op
    omega
theorem kidsW_small : ∀ (l : List Cnd), KidsW l → SmallL l
  | [], _ => by rw [SmallL]; trivial
  | k :: r, h => by
    rw [KidsW] at h
    rw [SmallL]; exact ⟨cndW_small k h.1, kidsW_small r h.2⟩
end
theorem cnd_len {g : Gh} {cs : List Value} {c : Cnd} (h : CndR g cs c) : cs.length = 6 := by
  obtain ⟨op, kids, text, low, high, pl⟩ := c
  obtain ⟨A1, c1, A2, c2, rfl, _⟩ := h.parts; rfl

theorem wCond_ct : ∀ (c : Cnd) (v : Value) (g : Gh), CndV g v c → SmallC c → Ct Tryz.prog 25 [v] g (fun r g' => CndV g' r c)
  | .mk op kids text low high pl, v, g, hv, hw => by
    have ih : ∀ k ∈ kids, ∀ (v : Value) (g : Gh), CndV g v k → SmallC k → Ct Tryz.prog 25 [v] g (fun r g' => CndV g' r k) := fun k hmem => wCond_ct k
    rw [SmallC, smallL_iff] at hw
    obtain ⟨w1, w2, w3⟩ := hw
    obtain ⟨A1, c1, A2, c2, rfl, hk, hp, h1, h2, h3⟩ := hv.parts
    obtain ⟨A, c, e, hlen, hat⟩ := id hk
    injection e with e1 e2 e3; subst e1; subst e3
    refine enter ok25 (by simp) fun W => ?_
    refine vc_box 100 0 rfl rfl rfl rfl fun β => ?_
    refine vc_alloc 100 1 rfl rfl rfl fun β0 => ?_
    refine vc_nilrow 100 3 2 26 rfl rfl rfl ?_
    refine vc_loop 100 rfl [1, 2, 3, 7, 8, 9] (fun m vs bs g' => ∃ (k : Nat) (css : List (List Value)) (spare : List Value) (blk : Option Nat) (cap : Nat), k ≤ kids.length ∧ m = kids.length - k ∧
        vs = [.c (.p 0 0), .c (.p 1 0), .c (.s 2 0 k cap), .c (.v (.slice A1 kids.length c1)), .c (.v (.int .i64 (kids.length : Int))), .c (.v (.int .i64 (k : Int)))] ∧
        bs = [⟨some β, 26, [.v (.int .i64 op), .v (.slice A1 kids.length c1), .v (.string text), .v (.int .i64 low), .v (.int .i64 high), .v (.slice A2 pl.length c2)], true⟩,
          ⟨some β0, 26, [.v (.int .i64 0), .v (.slice none 0 0), .v (.string ⟨#[]⟩), .v (.int .i64 0), .v (.int .i64 0), .v (.slice none 0 0)], true⟩,
          ⟨blk, 26, css.flatten.map .v ++ spare.map .v, true⟩] ∧ Le g g' ∧ RowOk blk 6 k cap (css.flatten.map .v) (spare.map .v) ∧ RowsR 6 (CndR g') css (kids.take k)) kids.length
      ⟨0, [], [], none, 0, Nat.zero_le _, rfl, rfl, rfl, Le.refl _, ⟨rfl, Nat.le_refl _, Nat.zero_le _, rfl, fun _ => rfl⟩, RowsR.nil⟩ ?_
    rintro m vs bs' g1 ⟨k, css, spare, blk, cap, hkl, rfl, rfl, rfl, hle, hrow, hrows⟩
    refine vc_if 100 rfl rfl rfl (fun h => ?_) (fun h => ?_)
    · have hlt : k < kids.length := by have := of_decide_eq_true h; omega
      obtain ⟨β', off, cs, rfl, hcs, hrow', hcr⟩ := hat k kids[k] (nth_get hlt)
      have hI := ih kids[k] (List.getElem_mem hlt) (.agg cs.toArray) g1 ⟨cs, rfl, CndR.mono hle _ _ hcr⟩ (w3 _ (List.getElem_mem hlt))
      have htake : kids.take (k + 1) = kids.take k ++ [kids[k]] := List.take_succ_eq_append_getElem hlt
      generalize kids[k] = kc at *
      obtain ⟨op', kids', text', low', high', pl'⟩ := kc
      obtain ⟨A1', c1', A2', c2', rfl, _⟩ := hcr.parts
      refine vc_ia 100 rfl rfl rfl rfl (by omega) (by omega) ?_
      refine vc_ldn 100 _ rfl rfl rfl rfl (hrow'.mono hle) ?_
      refine vc_alloc 100 3 rfl rfl rfl fun β4 => ?_
      refine vc_call 100 rfl rfl rfl hI ?_
      rintro _ g2 hle2 ⟨ds, rfl, hds⟩
      obtain ⟨B1, d1, B2, d2, rfl, _⟩ := hds.parts
      refine vc_bslice 100 4 rfl rfl rfl rfl rfl fun β5 => ?_
      refine vc_append 100 5 (css.flatten.map .v) (spare.map .v) (news := [Value.int .i64 op', .slice B1 kids'.length d1, .string text', .int .i64 low', .int .i64 high', .slice B2 pl'.length d2].map .v) rfl rfl rfl rfl rfl rfl hrow rfl rfl rfl rfl (by decide) rfl (by omega) (by omega) (by simp only [maxLen]; omega) (by omega) fun β6 cap' spare' hrow2 => ?_
      refine vc_arith 100 rfl rfl rfl rfl rfl ((k + 1 : Nat) : Int) (wr (by omega) (by omega) (by omega)) ?_
      refine vc_fin 100 rfl ⟨kids.length - (k + 1), [0, 1, 5], by omega, rfl, k + 1, css ++ [[Value.int .i64 op', .slice B1 kids'.length d1, .string text', .int .i64 low', .int .i64 high', .slice B2 pl'.length d2]], spare', some β6, cap', by omega, rfl, rfl, ?_, Le.trans hle hle2, ?_, ?_⟩
      · have e6 : List.map (ren [0, 1, 5]) ((css.flatten.map C1.v ++ [Value.int .i64 op', .slice B1 kids'.length d1, .string text', .int .i64 low', .int .i64 high', .slice B2 pl'.length d2].map C1.v) ++ spare'.map C1.v) = (css ++ [[Value.int .i64 op', .slice B1 kids'.length d1, .string text', .int .i64 low', .int .i64 high', .slice B2 pl'.length d2]]).flatten.map C1.v ++ spare'.map C1.v := by
          rw [List.map_append, List.map_append, ren_vals, ren_vals, ren_vals, List.flatten_append, List.map_append, List.flatten_singleton]
        exact congrArg (fun l => [_, _, (⟨some β6, 26, l, true⟩ : Bx)]) e6
      · rw [List.flatten_append, List.flatten_singleton, List.map_append]; exact hrow2
      · rw [htake]; exact (hrows.mono fun _ _ h => CndR.mono hle2 _ _ h).snoc rfl hds
    · have hkn : k = kids.length := by have := of_decide_eq_false h; omega
      subst hkn
      rw [List.take_length] at hrows
      have hkc := hrow.2.1
      have hcl := hrow.2.2.1
      refine vc_call 100 rfl rfl rfl (clonePlc_ct _ _ _ (hp.mono hle fun _ _ h => h) (by omega)) ?_
      rintro r g2 hle2 hr
      obtain ⟨D, d, rfl, -⟩ := id hr
      cases blk with
      | none =>
        have hc0 := hrow.2.2.2.2 rfl
        subst hc0
        obtain rfl : kids = [] := List.eq_nil_of_length_eq_zero (by omega)
        refine vc_ret0 100 rfl rfl ⟨_, rfl, ?_⟩
        rw [CndR]
        exact ⟨_, _, rfl, (kidsR_iff _ _ _).2 (Sl.empty _ _ _ _ _ (by omega)), hr, h3⟩
      | some β6 =>
        refine vc_ret 100 rfl rfl fun g' hle3 hpub => ⟨_, rfl, ?_⟩
        rw [CndR]
        refine ⟨_, _, rfl, (kidsR_iff _ _ _).2 ?_, hr.mono hle3 fun _ _ h => h, h3⟩
        exact Sl.pub (hrows.mono fun _ _ h => CndR.mono (Le.trans hle2 hle3) _ _ h) hpub (i := 2) rfl hkc (by simp only [maxLen] at hcl; omega)

end Go.Proofs.YtmolncgdehfejaaGreatDoor

/- Rules: cap, append of nothing to a nil slice, append of zeros that are made. No program stands in it. -/
namespace Go.Proofs.YtmolncgdehfejaaGreatDoor
open Go Go.RowKit

section
variable {X : Cx} {g : Gh}

theorem vc_cap (n : Nat) {st : St} {ty e : Nat} {c : Call} {x : Operand} {t : Nat} {d : Option Nat} {gd : Option (Nat × Bool)} {l : List RI} {ks : List K} {env : Env} {bs : List Bx} {A : Option Addr} {len cap : Nat}
    (hst : adv n st = ⟨.ops (⟨.raw (.call c) ty, d, gd⟩ :: l) :: ks, env, bs⟩) (hg : gdv gd env = some true) (hc : c.callee = .builtin .cap) (hargs : c.args = #[x]) (hty : c.argTypes = #[t]) (hu : X.P.underlying t = some (.slice e)) (hx : ev env x = .c (.v (.slice A len cap)))
    (h : vcS X ⟨.ops l :: ks, updO env d (.c (.v (.int .i64 (cap : Int)))), bs⟩ g) : vcS X st g := by
  refine adv_ok n ?_
  rw [hst]
  refine ops_value hg fun o ho a W hsim ha => ?_
  obtain ⟨hop, _⟩ := resO_inv ho
  have ex := is_ev ha x; rw [hx] at ex
  refine ⟨.value (.int .i64 (cap : Int)), _, W, .c (.v (.int .i64 (cap : Int))), bs, g, ?_, .inl rfl, rfl, hsim, Later.refl _, h⟩
  have hrun : (Builtin.cap_ #[t] o.type #[.slice A len cap]).run X.P W = .ok (.int .i64 (cap : Int)) W := by
    simp [Builtin.cap_, run_underlying hu]; rfl
  simp only [execOp, hop, resolve, hc, hargs, hty, Sem.run_bind, Sem.run_pure, Result.andThen_ok, invoke, builtin, List.map_toArray, List.map_cons, List.map_nil, show a.eval x = _ from ex, hrun]

/-- Nothing is appended to a nil slice: it stays nil. -/
theorem vc_appendn (n : Nat) {st : St} {E size bytes : Nat} {z : Value} {x y : Operand} {d : Option Nat} {gd : Option (Nat × Bool)} {l : List RI} {ks : List K} {env : Env} {bs : List Bx} {B : Option Addr} {mc : Nat}
    (hst : adv n st = ⟨.ops (⟨.append E size bytes z x y, d, gd⟩ :: l) :: ks, env, bs⟩) (hg : gdv gd env = some true) (hx : ev env x = .c (.v (.slice none 0 0))) (hy : ev env y = .c (.v (.slice B 0 mc)))
    (h : vcS X ⟨.ops l :: ks, updO env d (.c (.v (.slice none 0 0))), bs⟩ g) : vcS X st g := by
  refine adv_ok n ?_
  rw [hst]
  refine ops_value hg fun o ho a W hsim ha => ?_
  obtain ⟨c, t, inf, hop, hcall, hargs, htypes, hu, hinf, hz, hsize, hby⟩ := resO_inv ho
  have ex := is_ev ha x; rw [hx] at ex
  have ey := is_ev ha y; rw [hy] at ey
  refine ⟨.value (.slice none 0 0), _, W, .c (.v (.slice none 0 0)), bs, g, ?_, .inl rfl, rfl, hsim, Later.refl _, h⟩
  have hargs' : c.args = #[x, y] := Array.ext' (by simpa using hargs)
  have htypes' : c.argTypes = #[t, t] := Array.ext' (by simpa using htypes)
  have hf : (Builtin.firstCells inf.size 0 (.slice B 0 mc)).run X.P W = .ok #[] W := by
    cases B with
    | none => exact run_firstCells_none ..
    | some b => exact run_firstCells_some W inf.size 0 b 0 mc [] (by simp) (fun j v hj => by simp at hj)
  have hrun : (Builtin.append_ #[t, t] o.type #[.slice none 0 0, .slice B 0 mc]).run X.P W = .ok (.slice none 0 0) W := by
    simp [Builtin.append_, run_underlying hu, sizeOf, typeInfo, hinf, Builtin.lenOf, hf]
  simp only [execOp, hop, resolve, hcall, hargs', htypes', Sem.run_bind, Sem.run_pure, Result.andThen_ok, invoke, builtin, List.map_toArray, List.map_cons, List.map_nil, show a.eval x = _ from ex, show a.eval y = _ from ey, hrun]

/-- Nothing is appended to an own row: it stays as it is. -/
theorem vc_appende (n : Nat) {st : St} {E size bytes : Nat} {z : Value} {x y : Operand} {d : Option Nat} {gd : Option (Nat × Bool)} {l : List RI} {ks : List K} {env : Env} {bs : List Bx} {B : Option Addr} {mc i len cap : Nat} {b : Bx} {β : Nat}
    (hst : adv n st = ⟨.ops (⟨.append E size bytes z x y, d, gd⟩ :: l) :: ks, env, bs⟩) (hg : gdv gd env = some true) (hx : ev env x = .c (.s i 0 len cap)) (hb : nth bs i = some b) (hβ : b.blk = some β) (hy : ev env y = .c (.v (.slice B 0 mc))) (hlc : len ≤ cap)
    (h : vcS X ⟨.ops l :: ks, updO env d (.c (.s i 0 len cap)), bs⟩ g) : vcS X st g := by
  refine adv_ok n ?_
  rw [hst]
  refine ops_value hg fun o ho a W hsim ha => ?_
  obtain ⟨c, t, inf, hop, hcall, hargs, htypes, hu, hinf, hz, hsize, hby⟩ := resO_inv ho
  have ex := is_ev ha x; rw [hx] at ex
  simp only [Is, IsC, C1.at, hb, hβ, Option.some.injEq] at ex
  have ey := is_ev ha y; rw [hy] at ey
  refine ⟨.value (.slice (some ⟨β, 0, none⟩) len cap), _, W, .c (.s i 0 len cap), bs, g, ?_, .inl rfl, by simp [Is, IsC, C1.at, hb, hβ], hsim, Later.refl _, h⟩
  have hargs' : c.args = #[x, y] := Array.ext' (by simpa using hargs)
  have htypes' : c.argTypes = #[t, t] := Array.ext' (by simpa using htypes)
  have hf : (Builtin.firstCells inf.size 0 (.slice B 0 mc)).run X.P W = .ok #[] W := by
    cases B with
    | none => exact run_firstCells_none ..
    | some b => exact run_firstCells_some W inf.size 0 b 0 mc [] (by simp) (fun j v hj => by simp at hj)
  have hrun : (Builtin.append_ #[t, t] o.type #[.slice (some ⟨β, 0, none⟩) len cap, .slice B 0 mc]).run X.P W = .ok (.slice (some ⟨β, 0, none⟩) len cap) W := by
    simp [Builtin.append_, run_underlying hu, sizeOf, typeInfo, hinf, Builtin.lenOf, hf, hlc, storeCells]
  simp only [execOp, hop, resolve, hcall, hargs', htypes', Sem.run_bind, Sem.run_pure, Result.andThen_ok, invoke, builtin, List.map_toArray, List.map_cons, List.map_nil, ← ex, show a.eval y = _ from ey, hrun]

theorem zeroCells_length (z : Array Value) (n : Nat) : (Builtin.zeroCells z n).size = n * z.size := by simp [Builtin.zeroCells]
/-- append(nil[:0], make([]T, m)...): a new row. -/
theorem vc_appendz (n k : Nat) {st : St} {ty t tn e : Nat} {c : Call} {x y : Operand} {kq kn : IntKind} {m size bytes : Nat} {d : Option Nat} {gd : Option (Nat × Bool)} {l : List RI} {ks : List K} {env : Env} {bs : List Bx} {inf : TypeInfo} {z : Value}
    (hst : adv n st = ⟨.ops (⟨.raw (.call c) ty, d, gd⟩ :: l) :: ks, env, bs⟩) (hg : gdv gd env = some true) (hk : lenIs bs k = true) (hc : c.callee = .builtin .append) (hargs : c.args = #[x, y]) (hty : c.argTypes = #[t, tn])
    (hu : X.P.underlying t = some (.slice e)) (hun : X.P.underlying tn = some (.int kn)) (hinf : X.P.info? e = some inf) (hz : inf.zero = some z) (hsz : inf.size = size) (hzs : z.cells.size = size) (hby : inf.bytes = bytes)
    (hx : ev env x = .c (.v (.slice none 0 0))) (hy : ev env y = .c (.v (.int kq ((m : Nat) : Int)))) (h0 : 0 < m) (hs : 0 < size) (h63 : m ≤ maxLen) (h48 : m * bytes ≤ 281474976710656)
    (h : ∀ β cap (cells : List Value), m ≤ cap → cap ≤ maxLen → cells.length = cap * size → vcS X ⟨.ops l :: ks, updO env d (.c (.s k 0 m cap)), bs ++ [⟨some β, e, cells.map .v, true⟩]⟩ g) : vcS X st g := by
  refine adv_ok n ?_
  rw [hst]
  refine ops_value hg fun o ho a W hsim ha => ?_
  obtain ⟨hop, _⟩ := resO_inv ho
  have hk := lenIs_eq _ _ hk
  have ex := is_ev ha x; rw [hx] at ex
  have ey := is_ev ha y; rw [hy] at ey
  have hrun := Lib.run_append_nil_zeros (P := X.P) W t tn o.type e inf z kq kn hu hun hinf hz m h0 (by omega) (by unfold maxLen at h63; omega) (by rw [hby]; exact h48)
  have hcap := grownCap_ge W m 0 e
  have hcap2 := grownCap_le_maxLen W m 0 e h63
  generalize grownCap W m 0 e = cap at hrun hcap hcap2
  let cs : Array Value := Builtin.zeroCells z.cells m ++ Builtin.zeroCells z.cells (cap - m)
  have hlen : cs.size = cap * size := by
    simp only [cs, Array.size_append, zeroCells_length, hzs]
    rw [← Nat.add_mul]; congr 1; omega
  refine ⟨.value (.slice (some ⟨W.heap.size, 0, none⟩) m cap), .slice (some ⟨W.heap.size, 0, none⟩) m cap, W.drew.alloc (.cells cs e), .c (.s k 0 m cap), _, g, ?_, .inl rfl, ?_, (Sim.drew hsim).alloc e (cs.toList.map .v) cs (by simp) ?_, Later.append _ _, h W.heap.size cap cs.toList hcap hcap2 (by simpa using hlen)⟩
  · simp only [execOp, hop, resolve, hc, hargs, hty, Sem.run_bind, Sem.run_pure, Result.andThen_ok, invoke, builtin, List.map_toArray, List.map_cons, List.map_nil, show a.eval x = _ from ex, show a.eval y = _ from ey, hrun]
    rfl
  · show Is (bs ++ _) (.c (.s k 0 m cap)) _
    simp [Is, IsC, C1.at, nth_append, ← hk, nth]
  · intro o x ho
    rw [nth_eq, List.getElem?_map] at ho
    cases hc : cs.toList[o]? with
    | none => simp [hc] at ho
    | some u =>
      simp only [hc, Option.map_some] at ho
      injection ho with ho
      subst ho
      exact ⟨u, by simpa using hc, rfl⟩
end
end Go.Proofs.YtmolncgdehfejaaGreatDoor

/- Contracts: lists of numbers behind each other. -/
namespace Go.Proofs.YtmolncgdehfejaaGreatDoor
open Go
set_option maxRecDepth 10000

theorem us33g : Tryz.prog.underlying 33 = some (.slice 3) := by kernel_rfl
theorem ui3Int : Tryz.prog.underlying 3 = some (.int .i64) := by kernel_rfl
theorem infInt : ∃ i z, Tryz.prog.info? 3 = some i ∧ i.zero = some z ∧ i.size = 1 ∧ z.cells.size = 1 ∧ i.bytes = 8 := ⟨_, _, rfl, rfl, rfl, rfl, rfl⟩
theorem growInt0_ct (g : Gh) : Ct Tryz.prog 59 [.slice none 0 0, .int .i64 0] g (fun r g' => r = .slice none 0 0 ∧ g' = g) := by
  refine enter ok59 (by simp) fun W => ?_
  refine vc_if 100 rfl rfl rfl (fun h => by cases h) (fun _ => ?_)
  refine vc_cap 100 rfl rfl rfl rfl rfl us33g rfl ?_
  refine vc_arith 100 rfl rfl rfl rfl rfl 0 (wr (by omega) (by omega) (by omega)) ?_
  refine vc_arith 100 rfl rfl rfl rfl rfl 0 (wr (by omega) (by omega) (by omega)) ?_
  refine vc_if 100 rfl rfl rfl (fun h => by cases h) (fun _ => ?_)
  exact vc_ret0 100 rfl rfl ⟨rfl, rfl⟩
theorem growInt_ct (n : Nat) (g : Gh) (h0 : 0 < n) (hn : n ≤ 1000000000) : CtN Tryz.prog 59 [.slice none 0 0, .int .i64 ((n : Nat) : Int)] g (fun len cap ty cells g' => len = 0 ∧ n ≤ cap ∧ cap ≤ maxLen ∧ ty = 3 ∧ cells.length = cap * 1 ∧ g' = g) := by
  obtain ⟨i, z, hi, hz, hs, hzs, hby⟩ := infInt
  refine enterN ok59 (by simp) fun W => ?_
  refine vc_if 100 rfl rfl rfl (fun h => by have := of_decide_eq_true h; omega) (fun _ => ?_)
  refine vc_cap 100 rfl rfl rfl rfl rfl us33g rfl ?_
  refine vc_arith 100 rfl rfl rfl rfl rfl 0 (wr (by omega) (by omega) (by omega)) ?_
  refine vc_arith 100 rfl rfl rfl rfl rfl ((n : Nat) : Int) (wr (by omega) (by omega) (by omega)) ?_
  refine vc_if 100 rfl rfl rfl (fun _ => ?_) (fun h => by have := of_decide_eq_false h; omega)
  refine vc_cap 100 rfl rfl rfl rfl rfl us33g rfl ?_
  refine vc_slg 100 0 0 0 rfl rfl rfl rfl ⟨_, rfl⟩ rfl (by omega) (by omega) (by omega) ?_
  refine vc_appendz 100 0 rfl rfl rfl rfl rfl rfl us33g ui3Int hi hz hs hzs hby rfl rfl h0 (by omega) (by simp only [maxLen]; omega) (by omega) fun β cap cells h1 h2 h3 => ?_
  refine vc_slo 100 0 0 cap rfl rfl rfl rfl rfl rfl ⟨_, rfl⟩ rfl (by omega) (by omega) (by omega) ?_
  rw [show (if cap = 0 then 0 else 0 + 0 * 1) = 0 by split <;> rfl]
  exact vc_retN 100 0 rfl rfl rfl cells (concL_vals' _ _) ⟨rfl, by omega, by omega, rfl, h3, rfl⟩

/-- A list as one cell that is a slice. -/
def ListIntR (g : Gh) (cs : List Value) (l : List Int) : Prop := ∃ sv, cs = [sv] ∧ Sl g 1 IntR sv l
theorem concatInt_ct (v : Value) (ls : List (List Int)) (g : Gh) (hv : Sl g 1 (ListIntR g) v ls) (hlen : ls.flatten.length ≤ 1000000) (hls : ls.length ≤ 1000000) : Ct Tryz.prog 22 [v] g (fun r g' => Sl g' 1 IntR r ls.flatten) := by
  obtain ⟨A, c, rfl, hc, hat⟩ := hv
  refine enter ok22 (by simp) fun W => ?_
  have hsum : ∀ k, (ls.take k).flatten.length ≤ ls.flatten.length := fun k => by
    conv => rhs; rw [← List.take_append_drop k ls]
    rw [List.flatten_append, List.length_append]; omega
  refine vc_loop 100 rfl [0, 3, 9, 10, 11] (fun m vs bs g' => ∃ k : Nat, k ≤ ls.length ∧ m = ls.length - k ∧ vs = [.c (.v (.slice A ls.length c)), .c (.v (.int .i64 (((ls.take k).flatten.length : Nat) : Int))), .c (.v (.slice A ls.length c)), .c (.v (.int .i64 (ls.length : Int))), .c (.v (.int .i64 (k : Int)))] ∧ bs = [] ∧ g' = g) ls.length
    ⟨0, Nat.zero_le _, rfl, rfl, rfl, rfl⟩ ?_
  rintro m vs bs' g' ⟨k, hk, rfl, rfl, rfl, rfl⟩
  refine vc_if 100 rfl rfl rfl (fun h => ?_) (fun h => ?_)
  · have hlt : k < ls.length := by have := of_decide_eq_true h; omega
    obtain ⟨β, off, cs, rfl, hcs, hrow, sv, rfl, hsv⟩ := hat k ls[k] (nth_get hlt)
    have htake : (ls.take (k + 1)).flatten.length = (ls.take k).flatten.length + ls[k].length := by rw [List.take_succ_eq_append_getElem hlt, List.flatten_append, List.flatten_singleton, List.length_append]
    have hs1 := hsum (k + 1)
    obtain ⟨B, d, rfl, hd, -⟩ := hsv
    refine vc_ia 100 rfl rfl rfl rfl (by omega) (by omega) ?_
    refine vc_ld1 100 rfl rfl rfl (v := .slice B ls[k].length d) hrow.at0 ?_
    refine vc_arith 100 rfl rfl rfl rfl rfl (((ls.take (k + 1)).flatten.length : Nat) : Int) (wr (by omega) (by omega) (by omega)) ?_
    refine vc_if 100 rfl rfl rfl (fun h => by have := of_decide_eq_true h; omega) (fun _ => ?_)
    refine vc_arith 100 rfl rfl rfl rfl rfl ((k + 1 : Nat) : Int) (wr (by omega) (by omega) (by omega)) ?_
    exact vc_fin 100 rfl ⟨ls.length - (k + 1), [], by omega, rfl, k + 1, by omega, rfl, rfl, rfl, rfl⟩
  have hkn : k = ls.length := by have := of_decide_eq_false h; omega
  rw [hkn, List.take_length]
  clear hkn hk h
  rcases Nat.eq_zero_or_pos ls.flatten.length with h0 | h0
  · have hz : ∀ i x, nth ls i = some x → x = [] := fun i x hx => by
      have hm := nth_mem hx
      have : x.length ≤ ls.flatten.length := by
        obtain ⟨s, t, rfl⟩ := List.append_of_mem hm
        simp only [List.flatten_append, List.flatten_cons, List.length_append]; omega
      exact List.eq_nil_of_length_eq_zero (by omega)
    rw [h0]
    refine vc_call 100 rfl rfl rfl (growInt0_ct _) ?_; rintro _ _ - ⟨rfl, rfl⟩
    refine vc_loop 100 rfl [6, 25, 26, 27] (fun m vs bs g2 => ∃ k : Nat, k ≤ ls.length ∧ m = ls.length - k ∧ vs = [.c (.v (.slice none 0 0)), .c (.v (.slice A ls.length c)), .c (.v (.int .i64 (ls.length : Int))), .c (.v (.int .i64 (k : Int)))] ∧ bs = [] ∧ g2 = _) ls.length
      ⟨0, Nat.zero_le _, rfl, rfl, rfl, rfl⟩ ?_
    rintro m vs bs' g2 ⟨k, hk, rfl, rfl, rfl, rfl⟩
    refine vc_if 100 rfl rfl rfl (fun h => ?_) (fun h => ?_)
    · have hlt : k < ls.length := by have := of_decide_eq_true h; omega
      obtain ⟨β, off, cs, rfl, hcs, hrow, sv, rfl, hsv⟩ := hat k ls[k] (nth_get hlt)
      rw [hz k ls[k] (nth_get hlt)] at hsv
      obtain ⟨B, d, rfl, hd, -⟩ := hsv
      refine vc_ia 100 rfl rfl rfl rfl (by omega) (by omega) ?_
      refine vc_ld1 100 rfl rfl rfl (v := .slice B 0 d) hrow.at0 ?_
      refine vc_appendn 100 rfl rfl rfl rfl ?_
      refine vc_arith 100 rfl rfl rfl rfl rfl ((k + 1 : Nat) : Int) (wr (by omega) (by omega) (by omega)) ?_
      exact vc_fin 100 rfl ⟨ls.length - (k + 1), [], by omega, rfl, k + 1, by omega, rfl, rfl, rfl, rfl⟩
    · refine vc_ret0 100 rfl rfl ?_
      rw [List.eq_nil_of_length_eq_zero h0]; exact Sl.empty _ _ _ _ _ (by omega)
  · refine vc_callN 100 0 rfl rfl rfl rfl (growInt_ct _ _ h0 (by omega)) ?_
    rintro β0 len cap0 ty cells0 g1 - ⟨rfl, hc1, hc2, rfl, hc3, rfl⟩
    refine vc_loop 100 rfl [6, 25, 26, 27] (fun m vs bs g2 => ∃ (k : Nat) (css : List (List Value)) (spare : List Value) (β cap : Nat), k ≤ ls.length ∧ m = ls.length - k ∧ vs = [.c (.s 0 0 (ls.take k).flatten.length cap), .c (.v (.slice A ls.length c)), .c (.v (.int .i64 (ls.length : Int))), .c (.v (.int .i64 (k : Int)))] ∧
      bs = [⟨some β, 3, css.flatten.map .v ++ spare.map .v, true⟩] ∧ g2 = _ ∧ RowOk (some β) 1 (ls.take k).flatten.length cap (css.flatten.map .v) (spare.map .v) ∧ RowsR 1 IntR css (ls.take k).flatten) ls.length
      ⟨0, [], cells0, β0, cap0, Nat.zero_le _, rfl, rfl, rfl, rfl, ⟨rfl, Nat.zero_le _, hc2, by rw [List.length_map, hc3]; rfl, fun e => by cases e⟩, RowsR.nil⟩ ?_
    rintro m vs bs' g2 ⟨k, css, spare, β1, cap, hk, rfl, rfl, rfl, rfl, hrw, hrows⟩
    refine vc_if 100 rfl rfl rfl (fun h => ?_) (fun h => ?_)
    · have hlt : k < ls.length := by have := of_decide_eq_true h; omega
      obtain ⟨β, off, cs, rfl, hcs, hrow, sv, rfl, hsv⟩ := hat k ls[k] (nth_get hlt)
      have htake : (ls.take (k + 1)).flatten = (ls.take k).flatten ++ ls[k] := by rw [List.take_succ_eq_append_getElem hlt, List.flatten_append, List.flatten_singleton]
      have hs1 := hsum (k + 1)
      generalize ls[k] = x at *
      rcases Nat.eq_zero_or_pos x.length with hx0 | hx0
      · obtain rfl : x = [] := List.eq_nil_of_length_eq_zero hx0
        rw [List.append_nil] at htake
        obtain ⟨B, d, rfl, hd, -⟩ := hsv
        refine vc_ia 100 rfl rfl rfl rfl (by omega) (by omega) ?_
        refine vc_ld1 100 rfl rfl rfl (v := .slice B 0 d) hrow.at0 ?_
        refine vc_appende 100 rfl rfl rfl rfl rfl rfl hrw.2.1 ?_
        refine vc_arith 100 rfl rfl rfl rfl rfl ((k + 1 : Nat) : Int) (wr (by omega) (by omega) (by omega)) ?_
        refine vc_fin 100 rfl ⟨ls.length - (k + 1), [0], by omega, rfl, k + 1, css, spare, β1, cap, by omega, rfl, ?_, ?_, rfl, ?_, ?_⟩
        · rw [htake]; rfl
        · have e6 : List.map (ren [0]) (css.flatten.map C1.v ++ spare.map C1.v) = css.flatten.map C1.v ++ spare.map C1.v := by rw [List.map_append, ren_vals, ren_vals]
          exact congrArg (fun l => [(⟨some β1, 3, l, true⟩ : Bx)]) e6
        · rw [htake]; exact hrw
        · rw [htake]; exact hrows
      · obtain ⟨B, d, rfl, hd, -⟩ := id hsv
        obtain ⟨γ, off2, ds, rfl, hr2, hl2, hrow2⟩ := hsv.flat hx0
        have htl : (ls.take (k + 1)).flatten.length = (ls.take k).flatten.length + x.length := by rw [htake, List.length_append]
        refine vc_ia 100 rfl rfl rfl rfl (by omega) (by omega) ?_
        refine vc_ld1 100 rfl rfl rfl (v := .slice (some ⟨γ, off2, none⟩) x.length d) hrow.at0 ?_
        refine vc_appendg 100 1 (css.flatten.map .v) (spare.map .v) ds.flatten rfl rfl rfl rfl rfl rfl hrw rfl hl2 hrow2 (hr2.one int_oneR) (by decide) rfl (by omega) (.inl hx0) (by simp only [maxLen]; omega) (by omega) fun β2 cap' spare' hrw2 => ?_
        refine vc_arith 100 rfl rfl rfl rfl rfl ((k + 1 : Nat) : Int) (wr (by omega) (by omega) (by omega)) ?_
        refine vc_fin 100 rfl ⟨ls.length - (k + 1), [1], by omega, rfl, k + 1, css ++ ds, spare', β2, cap', by omega, rfl, ?_, ?_, rfl, ?_, ?_⟩
        · rw [htl]; rfl
        · have e6 : List.map (ren [1]) ((css.flatten.map C1.v ++ ds.flatten.map C1.v) ++ spare'.map C1.v) = (css ++ ds).flatten.map C1.v ++ spare'.map C1.v := by
            rw [List.map_append, List.map_append, ren_vals, ren_vals, ren_vals, List.flatten_append, List.map_append]
          exact congrArg (fun l => [(⟨some β2, 3, l, true⟩ : Bx)]) e6
        · rw [htl, List.flatten_append, List.map_append]; exact hrw2
        · rw [htake]; exact hrows.append hr2
    · have hkn : k = ls.length := by have := of_decide_eq_false h; omega
      subst hkn
      rw [List.take_length] at *
      have hcl := hrw.2.2.1
      refine vc_ret 100 rfl rfl fun g' hle hpub => ?_
      exact Sl.pub (hrows.mono (fun _ _ h => h)) hpub (i := 0) rfl hrw.2.1 (by simp only [maxLen] at hcl; omega)

end Go.Proofs.YtmolncgdehfejaaGreatDoor

/- Rules for arrays that are written out, and their elements. No program stands in it. -/
namespace Go.Proofs.YtmolncgdehfejaaGreatDoor
open Go Go.RowKit

section
variable {X : Cx} {g : Gh}

/-- An array that is written out. -/
theorem vc_barr (n : Nat) {st : St} {t T e len size : Nat} {parts : Array (Nat × Operand)} {z : Value} {inf ie : TypeInfo} {d : Option Nat} {gd : Option (Nat × Bool)} {l : List RI} {ks : List K} {env : Env} {bs : List Bx} {cells : List C1}
    (hst : adv n st = ⟨.ops (⟨.raw (.build t parts) T, d, gd⟩ :: l) :: ks, env, bs⟩) (hg : gdv gd env = some true) (hu : X.P.underlying t = some (.array len e)) (hinf : X.P.info? t = some inf) (hz : inf.zero = some z) (hie : X.P.info? e = some ie) (hsz : ie.size = size)
    (hp : partsBelow len parts.toList = true) (hc : fillE env (z.cells.toList.map .v) (expand size parts.toList) = some cells)
    (h : vcS X ⟨.ops l :: ks, updO env d (.g cells), bs⟩ g) : vcS X st g := by
  refine adv_ok n ?_
  rw [hst]
  refine ops_value hg fun o ho a W hs ha => ?_
  obtain ⟨hop, _⟩ := resO_inv ho
  have hplaces : ∀ j p, nth ((List.range len).map fun j => (j * size, size)) j = some p → (fun j => some (j * size, size)) j = some p := by
    intro j p hj
    rw [nth_map, nth_eq] at hj
    cases hr : (List.range len)[j]? with
    | none => simp [hr] at hj
    | some m =>
      obtain ⟨h1, h2⟩ := List.getElem?_eq_some_iff.1 hr
      simp only [hr, Option.map_some, Option.some.injEq] at hj
      simp only [List.getElem_range] at h2
      subst h2
      exact congrArg some hj
  have hres := expand_res size len parts.toList hp
  obtain ⟨cs', e1, e2, e3⟩ := fill_ok ha hplaces parts.toList _ hres (z.cells.toList.map C1.v) cells hc z.cells (by simp) (fun o x ho => by
    rw [nth_eq, List.getElem?_map] at ho
    cases hc : z.cells.toList[o]? with
    | none => simp [hc] at ho
    | some u =>
      simp only [hc, Option.map_some] at ho
      injection ho with ho
      subst ho
      exact ⟨u, by simpa using hc, rfl⟩)
  refine ⟨.value (.agg cs'), .agg cs', W, .g cells, bs, g, ?_, .inl rfl, ⟨cs', rfl, e2, e3⟩, hs, Later.refl _, h⟩
  have hrun : (Instr.build t (parts.map fun q => (q.1, a.eval q.2))).run X.P W = .ok (.agg cs') W := by
    simp [Instr.build, zeroValue, typeInfo, hinf, hz, run_underlying hu, sizeOf, hie, hsz, Array.toList_map, e1]
  simp [execOp, hop, hrun]

/-- An element of an array. -/
theorem vc_ixa (n : Nat) {st : St} {len : Nat} {x i : Operand} {d : Option Nat} {gd : Option (Nat × Bool)} {l : List RI} {ks : List K} {env : Env} {bs : List Bx} {cells : List C1} {k : IntKind} {j : Int} (c : C1)
    (hst : adv n st = ⟨.ops (⟨.ixa1 len x i, d, gd⟩ :: l) :: ks, env, bs⟩) (hg : gdv gd env = some true) (hx : ev env x = .g cells) (hi : ev env i = .c (.v (.int k j))) (h0 : 0 ≤ j) (h1 : j < len) (hc : nth cells j.toNat = some c)
    (h : vcS X ⟨.ops l :: ks, updO env d (.c c), bs⟩ g) : vcS X st g := by
  refine adv_ok n ?_
  rw [hst]
  refine ops_value hg fun o ho a W hs ha => ?_
  obtain ⟨t, e, dd, jj, hop, hu, hd, hagg, hinf, hsz⟩ := resO_inv ho
  have ex := is_ev ha x; rw [hx] at ex
  have ei := is_ev ha i; rw [hi] at ei
  obtain ⟨cs, e1, e2, e3⟩ := ex
  obtain ⟨u, f1, f2⟩ := e3 _ _ hc
  refine ⟨.value u, u, W, .c c, bs, g, ?_, .inl rfl, f2, hs, Later.refl _, h⟩
  have hag : (isAgg e).run X.P W = .ok false W := by
    simp only [isAgg, Sem.run_bind, run_underlying hd, Result.andThen_ok]
    cases dd <;> first | (cases hagg; done) | rfl
  simp [execOp, hop, Instr.index, show a.eval x = _ from e1, show a.eval i = _ from ei, asIntOf, run_underlying hu, h0, h1, sizeOf, typeInfo, hinf, hsz, part, hag, f1]
end

end Go.Proofs.YtmolncgdehfejaaGreatDoor

/- The resolved form of opWord, and the closed facts on it. Printed by wip/gen.py. -/
namespace Go.Proofs.YtmolncgdehfejaaGreatDoor
open Go
set_option maxRecDepth 10000

/-- tintype/find.opWord -/
def R76 : RC :=
  .seq (.reg [⟨.mv (.const (.string ⟨#[]⟩)), some 2, none⟩])
  (.seq (.reg [⟨.raw (Op.build 163 #[(1, Operand.const (Value.string { data := #[97, 108, 108, 40] })), (2, Operand.const (Value.string { data := #[97, 110, 121, 40] })), (3, Operand.const (Value.string { data := #[110, 111, 116, 40] })), (4, Operand.const (Value.string { data := #[116, 97, 103, 32] })), (5, Operand.const (Value.string { data := #[115, 97, 121, 115, 32] })), (6, Operand.const (Value.string { data := #[112, 101, 114, 115, 111, 110, 32] })), (7, Operand.const (Value.string { data := #[115, 116, 97, 114, 115, 32] })), (8, Operand.const (Value.string { data := #[116, 97, 107, 101, 110, 32] })), (9, Operand.const (Value.string { data := #[116, 97, 108, 108] })), (10, Operand.const (Value.string { data := #[119, 105, 100, 101] })), (11, Operand.const (Value.string { data := #[115, 113, 117, 97, 114, 101] })), (12, Operand.const (Value.string { data := #[116, 117, 114, 110, 101, 100] })), (13, Operand.const (Value.string { data := #[112, 108, 97, 99, 101, 100] })), (14, Operand.const (Value.string { data := #[119, 105, 116, 104, 105, 110, 32] })), (15, Operand.const (Value.string { data := #[98, 111, 120, 32] })), (16, Operand.const (Value.string { data := #[104, 105, 100, 100, 101, 110] }))]) 163, some 3, none⟩,
   ⟨.mv (.tmp 0), some 4, none⟩,
   ⟨.ixa1 17 (.tmp 3) (.tmp 4), some 5, none⟩,
   ⟨.mv (.tmp 5), some 2, none⟩])
  (.ret))
theorem ok76 : FnOk Tryz.prog 76 6 R76 [.t 2] := ⟨_, _, rfl, rfl, rfl, by kernel_rfl, by kernel_rfl⟩

end Go.Proofs.YtmolncgdehfejaaGreatDoor

/- Contracts: the words of conditions; the text of 'tall'. -/
namespace Go.Proofs.YtmolncgdehfejaaGreatDoor
open Go
set_option maxRecDepth 10000

def opWords : List ByteArray := [⟨#[]⟩, ⟨#[97, 108, 108, 40]⟩, ⟨#[97, 110, 121, 40]⟩, ⟨#[110, 111, 116, 40]⟩, ⟨#[116, 97, 103, 32]⟩, ⟨#[115, 97, 121, 115, 32]⟩, ⟨#[112, 101, 114, 115, 111, 110, 32]⟩, ⟨#[115, 116, 97, 114, 115, 32]⟩,
  ⟨#[116, 97, 107, 101, 110, 32]⟩, ⟨#[116, 97, 108, 108]⟩, ⟨#[119, 105, 100, 101]⟩, ⟨#[115, 113, 117, 97, 114, 101]⟩, ⟨#[116, 117, 114, 110, 101, 100]⟩, ⟨#[112, 108, 97, 99, 101, 100]⟩, ⟨#[119, 105, 116, 104, 105, 110, 32]⟩, ⟨#[98, 111, 120, 32]⟩, ⟨#[104, 105, 100, 100, 101, 110]⟩]
def opWordS (op : Int) : ByteArray := (opWords[op.toNat]?).getD ⟨#[]⟩
theorem u163 : Tryz.prog.underlying 163 = some (.array 17 9) := by kernel_rfl
theorem inf163 : ∃ i, Tryz.prog.info? 163 = some i ∧ i.zero = some (.agg #[.string ⟨#[]⟩, .string ⟨#[]⟩, .string ⟨#[]⟩, .string ⟨#[]⟩, .string ⟨#[]⟩, .string ⟨#[]⟩, .string ⟨#[]⟩, .string ⟨#[]⟩, .string ⟨#[]⟩, .string ⟨#[]⟩, .string ⟨#[]⟩, .string ⟨#[]⟩, .string ⟨#[]⟩, .string ⟨#[]⟩, .string ⟨#[]⟩, .string ⟨#[]⟩, .string ⟨#[]⟩]) := ⟨_, rfl, by kernel_rfl⟩
theorem inf9s : ∃ i, Tryz.prog.info? 9 = some i ∧ i.size = 1 := ⟨_, rfl, by kernel_rfl⟩
theorem opWord_ct (op : Int) (g : Gh) (h1 : 0 ≤ op) (h2 : op ≤ 16) : Ct Tryz.prog 76 [.int .i64 op] g (fun r g' => r = .string (opWordS op) ∧ g' = g) := by
  refine enter ok76 (by simp) fun W => ?_
  obtain ⟨i1, k1, k2⟩ := inf163
  obtain ⟨i2, k3, k4⟩ := inf9s
  refine vc_barr 100 rfl rfl u163 k1 k2 k3 k4 rfl (cells := opWords.map fun s => C1.v (.string s)) (by kernel_rfl) ?_
  refine vc_ixa 100 (.v (.string (opWordS op))) rfl rfl rfl rfl h1 (by omega) ?_ ?_
  · show nth (opWords.map fun s => C1.v (.string s)) op.toNat = _
    have : op.toNat < opWords.length := by show _ < 17; omega
    rw [nth_map, nth_get this, opWordS, List.getElem?_eq_getElem this]; rfl
  · exact vc_ret0 100 rfl rfl ⟨rfl, rfl⟩

def tallC : Cnd := .mk 9 [] ⟨#[]⟩ 0 0 []
def tallS : ByteArray := ⟨#[116, 97, 108, 108]⟩
theorem tallV (g : Gh) : CndV g (.agg #[.int .i64 9, .slice none 0 0, .string ⟨#[]⟩, .int .i64 0, .int .i64 0, .slice none 0 0]) tallC := by
  refine ⟨_, rfl, ?_⟩
  rw [tallC, CndR]
  exact ⟨_, _, rfl, (kidsR_iff _ _ _).2 (Sl.empty _ _ _ _ _ (by omega)), Sl.empty _ _ _ _ _ (by omega), by unfold I64; omega, by decide, by unfold I64; omega, by unfold I64; omega⟩
theorem tallI : checkCondI tallC = 0 := by
  have h1 : check3I (.mk 9 [] ⟨#[]⟩ 0 0 []) = 0 := by simp [check3I, andThen, checkFormI, checkTextI, checkNumbersI, checkPlacesI, nonEmpty, fText, fLow, fHigh, fPl]
  rw [checkCondI, tallC, ckC, if_neg (by omega), if_neg (by decide), if_pos h1, ckL]
theorem condTextTall1_ct (g : Gh) : Ct Tryz.prog 53 [.agg #[.int .i64 9, .slice none 0 0, .string ⟨#[]⟩, .int .i64 0, .int .i64 0, .slice none 0 0]] g (fun r g' => r = .tuple #[.string tallS, .int .i64 0] ∧ g' = g) := by
  refine enter ok53 (by simp) fun W => ?_
  refine vc_box 100 0 rfl rfl rfl rfl fun β => ?_
  refine vc_call 100 rfl rfl rfl (opWord_ct 9 _ (by omega) (by omega)) ?_
  rintro _ _ - ⟨rfl, rfl⟩
  repeat (refine vc_if 100 rfl rfl rfl (fun h => by cases h) (fun _ => ?_))
  exact vc_ret0 100 rfl rfl ⟨rfl, rfl⟩
theorem condTextTall_ct (g : Gh) : Ct Tryz.prog 15 [.agg #[.int .i64 9, .slice none 0 0, .string ⟨#[]⟩, .int .i64 0, .int .i64 0, .slice none 0 0]] g (fun r _ => r = .tuple #[.string tallS, .int .i64 0]) := by
  refine enter ok15 (by simp) fun W => ?_
  refine vc_box 100 0 rfl rfl rfl rfl fun β => ?_
  refine vc_call 100 rfl rfl rfl (checkCond_ct _ _ _ (tallV _)) ?_
  rintro _ g1 - rfl
  rw [tallI]
  refine vc_if 100 rfl rfl rfl (fun h => by cases h) (fun _ => ?_)
  refine vc_call 100 rfl rfl rfl (condTextTall1_ct _) ?_
  rintro _ _ - ⟨rfl, rfl⟩
  refine vc_if 100 rfl rfl rfl (fun h => by cases h) (fun _ => ?_)
  refine vc_if 100 rfl rfl rfl (fun h => by cases h) (fun _ => ?_)
  exact vc_ret0 100 rfl rfl rfl

end Go.Proofs.YtmolncgdehfejaaGreatDoor

/- Plain laws: answers to a question and to its parts; what is denied. -/
namespace Go.Proofs.YtmolncgdehfejaaGreatDoor
open Go

/-! ### Ids rise -/
theorem checkFrom_rise : ∀ (l : List Pho) (o : Option Pho), checkFrom o l = 0 → (∀ q, o = some q → ∀ p ∈ l, q.id < p.id) ∧ l.Pairwise (fun a b => a.id < b.id)
  | [], o, _ => ⟨fun q _ p hp => by simp at hp, .nil⟩
  | p :: r, o, h => by
    rw [checkFrom] at h
    obtain ⟨a, b⟩ := andThen_zero h
    split at b
    · cases b
    · rename_i hn
      obtain ⟨h1, h2⟩ := checkFrom_rise r _ b
      have h3 : ∀ q, o = some q → q.id < p.id := fun q e => by
        subst e
        simp at hn; omega
      refine ⟨fun q e x hx => ?_, List.pairwise_cons.2 ⟨fun x hx => h1 p rfl x hx, h2⟩⟩
      rcases List.mem_cons.1 hx with rfl | hx
      · exact h3 q e
      · have := h1 p rfl x hx; have := h3 q e; omega
theorem check_rise {l : List Pho} (h : checkI l = 0) : l.Pairwise (fun a b => a.id < b.id) := by
  have hl := (check_all h).1
  rw [checkI, if_pos hl] at h
  exact (checkFrom_rise l _ h).2
theorem rise_inj {l : List Pho} (h : l.Pairwise (fun a b => a.id < b.id)) : ∀ a ∈ l, ∀ b ∈ l, a.id = b.id → a = b := by
  induction h with
  | nil => intro a ha; simp at ha
  | cons hx _ ih =>
    intro a ha b hb e
    rcases List.mem_cons.1 ha with e1 | ha' <;> rcases List.mem_cons.1 hb with e2 | hb'
    · rw [e1, e2]
    · have := hx b hb'; rw [e1] at e; omega
    · have := hx a ha'; rw [e2] at e; omega
    · exact ih a ha' b hb' e

theorem SortedOf.unique {s : List Srt} {l l1 l2 : List Pho} (hi : ∀ a ∈ l, ∀ b ∈ l, a.id = b.id → a = b) (h : SortedOf s l l1) (k : SortedOf s l l2) : l1 = l2 := by
  refine sorted_unique l1 l2 (h.1.trans k.1.symm) h.2 k.2 fun a ha b hb h1 h2 => hi a (h.1.mem_iff.1 ha) b (h.1.mem_iff.1 hb) (order_zero s a b ?_)
  have := (orderOk s).anti a b
  omega
theorem filter_inj {l : List Pho} {p : Pho → Bool} (h : ∀ a ∈ l, ∀ b ∈ l, a.id = b.id → a = b) : ∀ a ∈ l.filter p, ∀ b ∈ l.filter p, a.id = b.id → a = b :=
  fun a ha b hb => h a (List.mem_filter.1 ha).1 b (List.mem_filter.1 hb).1

/-! ### Windows -/
theorem window_len {α : Type} (f m : Nat) (l : List α) : (windowI (f : Int) (m : Int) l).length ≤ l.length := by
  unfold windowI; split <;> simp <;> omega
theorem window_first {α : Type} {f m k : Nat} {l : List α} (h0 : 0 < k) (hm : m = 0 ∨ k < m) :
    windowI (f : Int) (k : Int) l ++ windowI ((f + k : Nat) : Int) ((m - k : Nat) : Int) l = windowI (f : Int) (m : Int) l := by
  have e1 : windowI (f : Int) (k : Int) l = (l.drop f).take k := by rw [windowI, if_pos (by omega)]; rfl
  rw [e1]
  rcases hm with rfl | hm
  · have e2 : windowI ((f + k : Nat) : Int) ((0 - k : Nat) : Int) l = l.drop (f + k) := by rw [windowI, if_neg (by omega)]; rfl
    have e3 : windowI (f : Int) ((0 : Nat) : Int) l = l.drop f := by rw [windowI, if_neg (by omega)]; rfl
    rw [e2, e3, ← List.drop_drop, List.take_append_drop]
  · have e2 : windowI ((f + k : Nat) : Int) ((m - k : Nat) : Int) l = (l.drop (f + k)).take (m - k) := by rw [windowI, if_pos (by omega)]; rfl
    have e3 : windowI (f : Int) (m : Int) l = (l.drop f).take m := by rw [windowI, if_pos (by omega)]; rfl
    rw [e2, e3, ← List.drop_drop]
    conv => rhs; rw [show m = k + (m - k) by omega, List.take_add]
theorem window_most {α : Type} {f m : Nat} {l : List α} (h : 0 < m) : (windowI (f : Int) (m : Int) l).length ≤ m := by
  rw [windowI, if_pos (by omega), List.length_take]
  show min (m : Int).toNat _ ≤ m
  omega

/-! ### What is denied -/
theorem holds_not (c : Cnd) (p : Pho) : holdsB (ofC' 3 [c]) p = !holdsB c p := by
  rw [ofC', holdsB, if_neg (by omega), if_neg (by omega), if_pos rfl, holdsL, holdsL]; simp
theorem filter_len {α : Type} (p : α → Bool) : ∀ l : List α, (l.filter p).length + (l.filter fun x => !p x).length = l.length
  | [] => rfl
  | x :: l => by
    have := filter_len p l
    cases h : p x <;> simp [List.filter_cons, h] <;> omega
mutual
/-- A condition that is right elsewhere is right, or too large. -/
theorem ck_move : ∀ (c : Cnd) (nest n nest' n' : Int), (ckC c nest n).1 = 0 → (ckC c nest' n').1 = 0 ∨ (ckC c nest' n').1 = 4
  | .mk op kids text low high pl, nest, n, nest', n', h => by
    rw [ckC] at h ⊢
    by_cases h1 : n + 1 > 100 ∨ nest > 12
    · rw [if_pos h1] at h; cases h
    rw [if_neg h1] at h
    by_cases h2 : outsideB op 1 16 = true
    · rw [if_pos h2] at h; cases h
    rw [if_neg h2] at h ⊢
    by_cases h4 : n' + 1 > 100 ∨ nest' > 12
    · rw [if_pos h4]; exact .inr rfl
    rw [if_neg h4]
    by_cases h3 : check3I (.mk op kids text low high pl) = 0
    · rw [if_pos h3] at h ⊢
      exact ckL_move kids _ _ _ _ h
    · rw [if_neg h3] at h; exact absurd h h3
theorem ckL_move : ∀ (l : List Cnd) (nest n nest' n' : Int), (ckL l nest n).1 = 0 → (ckL l nest' n').1 = 0 ∨ (ckL l nest' n').1 = 4
  | [], nest, n, nest', n', _ => by rw [ckL]; exact .inl rfl
  | k :: r, nest, n, nest', n', h => by
    rw [ckL] at h ⊢
    by_cases h1 : (ckC k nest n).1 = 0
    · rw [if_pos h1] at h
      rcases ck_move k nest n nest' n' h1 with h2 | h2
      · rw [if_pos h2]; exact ckL_move r _ _ _ _ h
      · rw [if_neg (by rw [h2]; decide)]; exact .inr h2
    · rw [if_neg h1] at h; exact absurd h h1
end
theorem check_not {c : Cnd} (h : checkCondI c = 0) : checkCondI (ofC' 3 [c]) = 0 ∨ checkCondI (ofC' 3 [c]) = 4 := by
  have h3 : check3I (ofC' 3 [c]) = 0 := by simp [ofC', check3I, andThen, checkFormI, checkTextI, checkNumbersI, checkPlacesI, nonEmpty, fText, fLow, fHigh, fPl]
  rw [checkCondI, ofC', ckC, if_neg (by omega), if_neg (by decide)]
  rw [ofC'] at h3
  rw [if_pos h3, ckL]
  rcases ck_move c 0 0 (0 + 1) (0 + 1) h with h1 | h1
  · rw [if_pos h1, ckL]; exact .inl rfl
  · rw [if_neg (by rw [h1]; decide)]; exact .inr h1

end Go.Proofs.YtmolncgdehfejaaGreatDoor

/- The rule for open order in its widest form: events (what makes or writes memory, calls) in whatever order, told by a state. No program stands in it. -/
namespace Go.Proofs.YtmolncgdehfejaaGreatDoor
open Go Go.RowKit

/-- i may run when the events c are done. -/
def okE (deps : List (List Nat)) (evs c : List Nat) (i : Nat) : Prop := (∀ m ∈ c, i ∉ anc deps m ∧ i ≠ m) ∧ ∀ m ∈ evs, m ∉ c → m ∉ anc deps i
def okEB (deps : List (List Nat)) (evs c : List Nat) (i : Nat) : Bool :=
  allB (fun m => !memN (anc deps m) i && !Nat.beq i m) c && allB (fun m => memN c m || !memN (anc deps i) m) evs
theorem memN_false {l : List Nat} {x : Nat} (h : x ∉ l) : memN l x = false := by
  cases hb : memN l x with
  | false => rfl
  | true => exact absurd ((memN_iff _ _).1 hb) h
theorem okEB_of {deps : List (List Nat)} {evs c : List Nat} {i : Nat} (h : okE deps evs c i) : okEB deps evs c i = true := by
  simp only [okEB, Bool.and_eq_true]
  refine ⟨(allB_iff _ _).2 fun m hm => ?_, (allB_iff _ _).2 fun m hm => ?_⟩
  · obtain ⟨a, b⟩ := h.1 m hm
    have hb : Nat.beq i m = false := by
      cases he : Nat.beq i m with
      | false => rfl
      | true => exact absurd (Nat.eq_of_beq_eq_true he) b
    simp [memN_false a, hb]
  · by_cases hc : m ∈ c
    · simp [(memN_iff _ _).2 hc]
    · simp [memN_false (h.2 m hm hc)]
/-- What is kept when the event i runs behind the events c. -/
def keepB (deps : List (List Nat)) (evs c : List Nat) (i j : Nat) : Bool := !Nat.beq j i && !memN (anc deps j) i && (!memN evs j || memN c j)

def sameL : List Nat → List Nat → Bool
  | [], [] => true
  | x :: l, y :: m => Nat.beq x y && sameL l m
  | _, _ => false
theorem sameL_iff : ∀ (l m : List Nat), sameL l m = true ↔ l = m
  | [], [] => by simp [sameL]
  | [], _ :: _ => by simp [sameL]
  | _ :: _, [] => by simp [sameL]
  | x :: l, y :: m => by
    have : Nat.beq x y = true ↔ x = y := ⟨Nat.eq_of_beq_eq_true, fun e => by subst e; exact Nat.beq_refl x⟩
    simp [sameL, sameL_iff l m, this]
def hasL (cs : List (List Nat)) (c : List Nat) : Bool := cs.any (sameL c)
theorem hasL_iff {cs : List (List Nat)} {c : List Nat} : hasL cs c = true ↔ c ∈ cs := by
  simp only [hasL, List.any_eq_true]
  constructor
  · rintro ⟨x, hx, h⟩; rw [(sameL_iff _ _).1 h]; exact hx
  · exact fun h => ⟨c, h, (sameL_iff _ _).2 rfl⟩
/-- The stages are closed: an event that may run leads to a stage. -/
def closedB (deps : List (List Nat)) (evs : List Nat) (cs : List (List Nat)) : Bool :=
  hasL cs [] && allB (fun c => allB (fun i => memN c i || !okEB deps evs c i || hasL cs (c ++ [i])) evs) cs
def okIX (l : List RI) (deps : List (List Nat)) (evs : List Nat) (i : Nat) (r : RI) : Bool :=
  (match r.dst with | none => memN evs i | some _ => true) && (allB (fun j => Nat.blt j i) (nthD deps i) && allB (fun t => writersIn t (nthD deps i) i 0 l) (tempsI r))
def okLX (l0 : List RI) (deps : List (List Nat)) (evs : List Nat) : Nat → List RI → Bool
  | _, [] => true
  | i, r :: l => okIX l0 deps evs i r && okLX l0 deps evs (i + 1) l
theorem okLX_at {l0 : List RI} {deps : List (List Nat)} {evs : List Nat} : ∀ (l : List RI) (k : Nat), okLX l0 deps evs k l = true → ∀ i r, nth l i = some r → okIX l0 deps evs (k + i) r = true
  | [], _, _, i, r, h => by simp [nth] at h
  | x :: l, k, h, 0, r, hi => by
    simp only [nth, Option.some.injEq] at hi; subst hi
    simp only [okLX, Bool.and_eq_true] at h; exact h.1
  | x :: l, k, h, i + 1, r, hi => by
    simp only [okLX, Bool.and_eq_true] at h
    have := okLX_at l (k + 1) h.2 i r (by simpa [nth] using hi)
    rwa [show k + 1 + i = k + (i + 1) by omega] at this
/-- The stages at which an operation may run are listed. -/
def stgX (deps : List (List Nat)) (evs : List Nat) (cs : List (List Nat)) : Nat → List (List (List Nat)) → Bool
  | _, [] => true
  | i, s :: r => allB (fun c => !okEB deps evs c i || hasL s c) cs && stgX deps evs cs (i + 1) r
theorem stgX_at {deps : List (List Nat)} {evs : List Nat} {cs : List (List Nat)} : ∀ (s : List (List (List Nat))) (k : Nat), stgX deps evs cs k s = true → ∀ i q, nth s i = some q → ∀ c ∈ cs, okEB deps evs c (k + i) = true → c ∈ q
  | [], _, _, i, q, h => by simp [nth] at h
  | x :: s, k, h, 0, q, hi => by
    simp only [nth, Option.some.injEq] at hi; subst hi
    simp only [stgX, Bool.and_eq_true] at h
    intro c hc hok
    have := (allB_iff _ _).1 h.1 c hc
    rw [Nat.add_zero] at hok
    simp only [hok, Bool.not_true, Bool.false_or] at this
    exact hasL_iff.1 this
  | x :: s, k, h, i + 1, q, hi => by
    simp only [stgX, Bool.and_eq_true] at h
    have := stgX_at s (k + 1) h.2 i q (by simpa [nth] using hi)
    rwa [show k + 1 + i = k + (i + 1) by omega] at this

section
variable {X : Cx} {g : Gh} {l : List RI} {deps : List (List Nat)} {env : Env} {α : Type}
def EndX (deps : List (List Nat)) (evs : List Nat) (Inv : List Nat → α → Gh → List Bx → Prop) (F : α → Nat → EV) (i : Nat) (r : RI) (c : List Nat) (x : α) (g' : Gh) (bs' : List Bx) (env' : Env) (bs'' : List Bx) (g'' : Gh) : Prop :=
  match memN evs i with
  | true => Le g' g'' ∧ Later bs' bs'' ∧ ∃ x', Inv (c ++ [i]) x' g'' bs'' ∧ (∀ d, r.dst = some d → env' d = F x' i) ∧ ∀ j, keepB deps evs c i j = true → F x' j = F x j
  | false => bs'' = bs' ∧ g'' = g' ∧ ∀ d, r.dst = some d → env' d = F x i
def GoalX (X : Cx) (g : Gh) (l : List RI) (deps : List (List Nat)) (env : Env) (evs : List Nat) (Inv : List Nat → α → Gh → List Bx → Prop) (F : α → Nat → EV) (i : Nat) (r : RI) (c : List Nat) : Prop :=
  ∀ x g' bs', Le g g' → Inv c x g' bs' → vcS X ⟨[.ops [r], .fin (EndX deps evs Inv F i r c x g' bs')], restr (tempsI r) (envF (F x) 0 l env), bs'⟩ g'
/-- All goals, from the place k of the list on. -/
def goalsX (X : Cx) (g : Gh) (l0 : List RI) (deps : List (List Nat)) (env : Env) (evs : List Nat) (Inv : List Nat → α → Gh → List Bx → Prop) (F : α → Nat → EV) : Nat → List RI → List (List (List Nat)) → Prop
  | _, [], _ => True
  | _, _ :: _, [] => False
  | k, r :: q, cs :: s => (∀ c ∈ cs, GoalX X g l0 deps env evs Inv F k r c) ∧ goalsX X g l0 deps env evs Inv F (k + 1) q s
theorem goalsX_at {evs : List Nat} {Inv : List Nat → α → Gh → List Bx → Prop} {F : α → Nat → EV} : ∀ (q : List RI) (s : List (List (List Nat))) (k : Nat), goalsX X g l deps env evs Inv F k q s → ∀ i r, nth q i = some r → ∃ cs, nth s i = some cs ∧ ∀ c ∈ cs, GoalX X g l deps env evs Inv F (k + i) r c
  | [], _, _, _, i, r, h => by simp [nth] at h
  | x :: q, [], k, hg, _, _, _ => hg.elim
  | x :: q, cs :: s, k, hg, 0, r, h => by simp only [nth, Option.some.injEq] at h; subst h; exact ⟨cs, rfl, hg.1⟩
  | x :: q, cs :: s, k, hg, i + 1, r, h => by
    obtain ⟨cs', h1, h2⟩ := goalsX_at q s (k + 1) hg.2 i r (by simpa [nth] using h)
    exact ⟨cs', by simpa [nth] using h1, by rwa [show k + 1 + i = k + (i + 1) by omega] at h2⟩

def DrawInvX (X : Cx) (g : Gh) (l : List RI) (deps : List (List Nat)) (env : Env) (evs : List Nat) (cs : List (List Nat)) (Inv : List Nat → α → Gh → List Bx → Prop) (F : α → Nat → EV) (listed : Array Bool) (a : Act) (W : World) : Prop :=
  ∃ c x g' bs', c ∈ cs ∧ Inv c x g' bs' ∧ Le g g' ∧ Sim X g' bs' W ∧ (∀ m ∈ c, listed.getD m false = true) ∧ (∀ m ∈ evs, m ∉ c → listed.getD m false = false) ∧
    a.defers = [] ∧ X.N ≤ a.tmps.size ∧ (∀ t, t ∉ dsts l → Is bs' (env t) (a.tmps.getD t undef)) ∧
    (∀ i r d, nth l i = some r → r.dst = some d → listed.getD i false = true → Is bs' (F x i) (a.tmps.getD d undef)) ∧ (∀ i, listed.getD i false = true → ∀ j ∈ nthD deps i, listed.getD j false = true)

theorem vc_drawX (hm : X.P.follows .mixedOrders = true) (n : Nat) {st : St} {ks : List K} {bs : List Bx}
    (hst : adv n st = ⟨.code (.drw l deps) :: ks, env, bs⟩) (evs : List Nat) (cs : List (List Nat)) (stg : List (List (List Nat))) (Inv : List Nat → α → Gh → List Bx → Prop) (F : α → Nat → EV) (x0 : α) (h0 : Inv [] x0 g bs)
    (hchk : (distinct (dsts l) && (okLX l deps evs 0 l && (allB (fun m => Nat.blt m l.length) evs && (closedB deps evs cs && stgX deps evs cs 0 stg)))) = true)
    (hgoals : goalsX X g l deps env evs Inv F 0 l stg)
    (h : ∀ c ∈ cs, allB (memN c) evs = true → ∀ x g' bs', Le g g' → Inv c x g' bs' → vcS X ⟨ks, envF (F x) 0 l env, bs'⟩ g') : vcS X st g := by
  refine adv_ok n ?_
  rw [hst]
  intro ks' hk a0 W0 hs0 ha0
  simp only [Bool.and_eq_true] at hchk
  obtain ⟨hdis, hokl, hevl, hclo, hstg⟩ := hchk
  simp only [closedB, Bool.and_eq_true] at hclo
  obtain ⟨hc0, hclo⟩ := hclo
  cases hk with
  | @code c _ r' _ hc hr =>
  obtain ⟨id, ops, rfl, hl, rfl⟩ := resC_inv hc
  obtain ⟨hlen, hnth⟩ := resL_nth ops.toList l hl
  have hlen' : l.length = ops.size := by simpa using hlen
  have hspec : ∀ {i : Nat} {r : RI}, nth l i = some r → (∀ j ∈ nthD (depsOf ops) i, j < i) ∧ (∀ t ∈ tempsI r, ∀ j r', nth l j = some r' → r'.dst = some t → j ∈ nthD (depsOf ops) i ∧ j < i) ∧ (r.dst = none → i ∈ evs) := by
    intro i r hi
    have h1 := okLX_at l 0 hokl i r hi
    rw [Nat.zero_add] at h1
    simp only [okIX, Bool.and_eq_true] at h1
    obtain ⟨a, b, c⟩ := h1
    refine ⟨fun j hj => by have := (allB_iff _ _).1 b j hj; rwa [Nat.blt_eq] at this, fun t ht j r' hj hd' => ?_, fun hd => ?_⟩
    · have := writersIn_spec t _ _ l 0 ((allB_iff _ _).1 c t ht) j r' hj hd'
      rw [Nat.zero_add] at this; exact this
    · rw [hd] at a; exact (memN_iff _ _).1 a
  have key : ∀ fuel (listed : Array Bool) a W, listed.size = ops.size → ((List.range ops.size).filter (fun i => !listed.getD i true)).length = fuel →
      DrawInvX X g l (depsOf ops) env evs cs Inv F listed a W → wpAny X.P .any ops (wps X.P X.Q r') fuel listed a W := by
    intro fuel
    induction fuel with
    | zero =>
      intro listed a W hsize hfuel hinv
      have hall : ∀ i, i < ops.size → listed.getD i true = true := by
        intro i hi
        cases hb : listed.getD i true with
        | true => rfl
        | false =>
          have : i ∈ (List.range ops.size).filter (fun i => !listed.getD i true) := List.mem_filter.2 ⟨List.mem_range.2 hi, by simp [hb]⟩
          rw [List.eq_nil_of_length_eq_zero hfuel] at this
          simp at this
      have hall' : ∀ i, i < ops.size → listed.getD i false = true := by
        intro i hi
        have := hall i hi
        have hi' : i < listed.size := by omega
        simpa [Array.getD_eq_getD_getElem?, hi'] using this
      refine ⟨?_, ?_⟩
      · apply List.eq_nil_iff_forall_not_mem.2
        intro i hi
        obtain ⟨o, ho, h1, _⟩ := (ready_iff ops listed i).1 hi
        have := hall i (Array.getElem?_eq_some_iff.1 ho).1
        rw [this] at h1; cases h1
      · obtain ⟨c, x, g', bs', hcs, hI, hle, hs, hc1, hc2, hdef, hsz, hout, hin, hcl⟩ := hinv
        refine h c hcs ((allB_iff _ _).2 fun m hme => ?_) x g' bs' hle hI r' hr a W hs ⟨hdef, hsz, fun t => ?_⟩
        · refine (memN_iff _ _).2 (Classical.byContradiction fun hno => ?_)
          have h1 := hc2 m hme hno
          have h2 := (allB_iff _ _).1 hevl m hme
          rw [Nat.blt_eq] at h2
          rw [hall' m (by omega)] at h1; cases h1
        · by_cases ht : t ∈ dsts l
          · obtain ⟨i, r, h1, h2⟩ := (mem_dsts l t).1 ht
            have := nth_lt h1
            show Is _ (envF (F x) 0 l env t) _
            rw [envF_at hdis h1 h2]; exact hin i r t h1 h2 (hall' i (by omega))
          · show Is _ (envF (F x) 0 l env t) _
            rw [envF_out _ _ _ _ _ ht]; exact hout t ht
    | succ fuel ih =>
      intro listed a W hsize hfuel hinv
      refine ⟨fun hempty => ?_, fun i hi => ?_⟩
      · exfalso
        have hall : ∀ m i, i < m → i < ops.size → listed.getD i true = true := by
          intro m
          induction m with
          | zero => intro i hi; omega
          | succ m ihm =>
            intro i him hi
            cases hb : listed.getD i true with
            | true => rfl
            | false =>
              exfalso
              have ho : ops[i]? = some ops[i] := by simp [hi]
              obtain ⟨r, hr1, _⟩ := hnth i ops[i] (by simp [hi])
              have : i ∈ Region.ready .any ops listed := (ready_iff ops listed i).2 ⟨_, ho, hb, fun j hj => by
                have hji := (hspec hr1).1 j hj
                have := ihm j (by omega) (by omega)
                have hj' : j < listed.size := by omega
                simpa [Array.getD_eq_getD_getElem?, hj'] using this⟩
              rw [hempty] at this
              simp at this
        have : (List.range ops.size).filter (fun i => !listed.getD i true) = [] := by
          apply List.filter_eq_nil_iff.2
          intro i hi
          have := hall (i + 1) i (by omega) (List.mem_range.1 hi)
          simp [this]
        rw [this] at hfuel
        simp at hfuel
      · obtain ⟨o, ho, hun, hdeps⟩ := (ready_iff ops listed i).1 hi
        have hilt : i < ops.size := (Array.getElem?_eq_some_iff.1 ho).1
        have hilt' : i < listed.size := by omega
        have hun' : listed.getD i false = false := by simpa [Array.getD_eq_getD_getElem?, hilt'] using hun
        obtain ⟨r, hri, hres⟩ := hnth i o (by simpa using ho)
        obtain ⟨p1, p2, p3, _⟩ := resI_parts hres
        obtain ⟨hdl, hwr, hst1⟩ := hspec hri
        obtain ⟨c, x, g', bs', hcs, hI, hle, hs, hc1, hc2, hdef, hsz, hout, hin, hcl⟩ := hinv
        have hfuel' : ((List.range ops.size).filter (fun j => !(listed.setIfInBounds i true).getD j true)).length = fuel := by
          have hsplit : ∀ (L : List Nat), L.Nodup → i ∈ L → (L.filter (fun j => !listed.getD j true)).length = (L.filter (fun j => !(listed.setIfInBounds i true).getD j true)).length + 1 := by
            intro L
            induction L with
            | nil => intro _ h; simp at h
            | cons x L ihL =>
              intro hnd hmem
              have hset : ∀ j, (listed.setIfInBounds i true).getD j true = if i = j then true else listed.getD j true := by
                intro j
                simp only [Array.getD_eq_getD_getElem?, Array.getElem?_setIfInBounds]
                by_cases h : i = j
                · subst h; simp [hilt']
                · simp [h]
              obtain ⟨hx, hnd'⟩ := List.nodup_cons.1 hnd
              by_cases e : i = x
              · subst e
                have hsame : L.filter (fun j => !(listed.setIfInBounds i true).getD j true) = L.filter (fun j => !listed.getD j true) := by
                  apply List.filter_congr
                  intro j hj
                  have : i ≠ j := fun e => hx (by rw [e]; exact hj)
                  rw [hset, if_neg this]
                rw [List.filter_cons_of_pos (by simp [hun]), List.filter_cons_of_neg (by simp [hset]), hsame, List.length_cons]
              · have hm' : i ∈ L := by
                  rcases List.mem_cons.1 hmem with h | h
                  · exact absurd h e
                  · exact h
                have := ihL hnd' hm'
                by_cases hb : listed.getD x true = true
                · rw [List.filter_cons_of_neg (by simp [hb]), List.filter_cons_of_neg (by rw [hset, if_neg e]; simp [hb])]; exact this
                · rw [List.filter_cons_of_pos (by simpa using hb), List.filter_cons_of_pos (by rw [hset, if_neg e]; simpa using hb), List.length_cons, List.length_cons, this]
          have := hsplit (List.range ops.size) List.nodup_range (List.mem_range.2 hilt)
          omega
        have self : ∀ j r2, nth l j = some r2 → j ∉ anc (depsOf ops) j := by
          intro j r2 hj
          have gen : ∀ (k : Nat) (s : List Nat), (∀ m ∈ s, m < j) → k ≤ j → j ∉ ancGo (depsOf ops) k s := by
            intro k
            induction k with
            | zero => intro s hs' _ hm; have := hs' j hm; omega
            | succ k ihk =>
              intro s hs' hkj
              simp only [ancGo]
              split
              · rename_i hmk
                refine ihk _ (fun m hm => ?_) (by omega)
                rcases joinN_mem _ _ _ hm with h | h
                · have hk' : k < ops.size := by have := nth_lt hj; omega
                  obtain ⟨rk, hrk, _⟩ := hnth k _ (by simp [hk'] : ops.toList[k]? = some ops[k])
                  have := (hspec hrk).1 m h
                  omega
                · exact hs' m h
              · exact ihk s hs' (by omega)
          exact gen j _ (fun m hm => (hspec hj).1 m hm) (Nat.le_refl _)
        have hclo2 : ∀ j, j ∈ anc (depsOf ops) i → listed.getD j false = true := fun j hj => by
          have := anc_closed (deps := depsOf ops) (D := fun m => m = i ∨ listed.getD m false = true) (fun m hm k hk => by
            rcases hm with rfl | hm
            · exact .inr (hdeps k hk)
            · exact .inr (hcl m hm k hk)) (.inl rfl) j hj
          rcases this with e | e
          · exfalso; subst e; exact self j r hri hj
          · exact e
        have hok : okE (depsOf ops) evs c i := by
          refine ⟨fun m hm => ⟨fun hmi => ?_, fun e => ?_⟩, fun m hme hmc hmi => ?_⟩
          · have := anc_closed (deps := depsOf ops) (D := fun m => listed.getD m false = true) hcl (hc1 m hm) i hmi
            rw [hun'] at this; cases this
          · subst e; have := hc1 i hm; rw [hun'] at this; cases this
          · have := hclo2 m hmi
            rw [hc2 m hme hmc] at this; cases this
        have hE : ∀ t ∈ tempsI r, Is bs' (envF (F x) 0 l env t) (a.tmps.getD t undef) := by
          intro t ht
          by_cases hm : t ∈ dsts l
          · obtain ⟨j, r2, h1, h2⟩ := (mem_dsts l t).1 hm
            rw [envF_at hdis h1 h2]
            exact hin j r2 t h1 h2 (hdeps j (hwr t ht j r2 h1 h2).1)
          · rw [envF_out _ _ _ _ _ hm]; exact hout t hm
        have hagr : Agr X bs' (restr (tempsI r) (envF (F x) 0 l env)) a := by
          refine ⟨hdef, hsz, fun t => ?_⟩
          unfold restr
          cases hmt : memN (tempsI r) t with
          | true => exact hE t ((memN_iff _ _).1 hmt)
          | false => exact trivial
        have hsize' : (listed.setIfInBounds i true).size = ops.size := by simpa using hsize
        obtain ⟨q, hq1, hq2⟩ := goalsX_at l stg 0 hgoals i r hri
        have hq3 := stgX_at stg 0 hstg i q hq1 c hcs (by rw [Nat.zero_add]; exact okEB_of hok)
        rw [Nat.zero_add] at hq2
        have hv := hq2 c hq3 x g' bs' hle hI
        let S : Act → World → Prop := fun a2 W2 => ∃ env2 bs2 g2, Sim X g2 bs2 W2 ∧ Agr X bs2 env2 a2 ∧ EndX (depsOf ops) evs Inv F i r c x g' bs' env2 bs2 g2
        have hrun := hv [.ops ops [i], .fin S] (.ops ⟨⟨o, ho, hres⟩, trivial⟩ (.fin (fun a2 W2 env2 bs2 g2 hs2 ha2 hR => ⟨env2, bs2, g2, hs2, ha2, hR⟩) .nil)) a W hs hagr
        have hrun' : wpOp X.P ops (wps X.P X.Q [.fin S]) i S a W := by
          have : wpOps X.P ops (wps X.P X.Q [.fin S]) [i] a W := hrun
          rw [wpOps_cons] at this
          exact wpOp_mono (fun a w hw => hw) this
        refine wpOp_to hrun' ho (fun ds v W2 hS => ?_) (fun c a w hp => by rw [wps_panic] at hp ⊢; exact hp) (fun a w hp => by rw [wps_outgrown] at hp ⊢; exact hp)
        obtain ⟨env2, bs2, g2, hs2, ha2, hR⟩ := hS
        have hds : ds = [] := by
          have := ha2.defers
          have e : (({ a with defers := ds ++ a.defers } : Act).put o.dst v).defers = ds ++ a.defers := by cases o.dst <;> rfl
          rw [e] at this
          exact (List.append_eq_nil_iff.1 this).1
        subst hds
        have hput : ∀ d, r.dst = some d → ∀ t, ((({ a with defers := [] ++ a.defers } : Act).put (some d) v).tmps.getD t undef) = if t = d then v else a.tmps.getD t undef := by
          intro d hd t
          have hdN : d < X.N := by rw [hd] at p3; simpa using p3
          simp only [Act.put, Array.getD_eq_getD_getElem?, Array.getElem?_setIfInBounds]
          by_cases h : t = d
          · subst h; simp [show t < a.tmps.size by omega]
          · simp [h, Ne.symm h]
        have hclN : ∀ j, (listed.setIfInBounds i true).getD j false = true → ∀ k ∈ nthD (depsOf ops) j, (listed.setIfInBounds i true).getD k false = true := by
          intro j hlj k hk
          rw [getD_set _ _ _ hilt'] at hlj ⊢
          by_cases e : i = j
          · subst e; split
            · rfl
            · exact hdeps k hk
          · rw [if_neg e] at hlj
            split
            · rfl
            · exact hcl j hlj k hk
        rw [p2] at ha2 ⊢
        refine ih (listed.setIfInBounds i true) _ W2 hsize' hfuel' ?_
        have hN : ∀ (a' : Act), a' = (({ a with defers := [] ++ a.defers } : Act).put r.dst v) → a'.defers = [] ∧ X.N ≤ a'.tmps.size := by
          rintro a' rfl
          cases r.dst with
          | none => exact ⟨by simpa [Act.put] using hdef, by simpa [Act.put] using hsz⟩
          | some d => exact ⟨by simpa [Act.put] using hdef, by simpa [Act.put] using hsz⟩
        unfold EndX at hR
        cases hev : memN evs i with
        | true =>
          rw [hev] at hR
          have hie := (memN_iff _ _).1 hev
          obtain ⟨hle2, hlat, x', hI2, hFi, hkeep⟩ := hR
          have hinc : i ∉ c := fun hm => (hok.1 i hm).2 rfl
          have hcs2 : c ++ [i] ∈ cs := by
            have h1 := (allB_iff _ _).1 ((allB_iff _ _).1 hclo c hcs) i hie
            simp only [memN_false hinc, okEB_of hok, Bool.not_true, Bool.false_or] at h1
            exact hasL_iff.1 h1
          have hold : ∀ j r2 d2, nth l j = some r2 → r2.dst = some d2 → listed.getD j false = true → j ≠ i → F x' j = F x j := by
            intro j r2 d2 hj hd2 hlj hne
            refine hkeep j ?_
            have h1 : Nat.beq j i = false := by
              cases he : Nat.beq j i with
              | false => rfl
              | true => exact absurd (Nat.eq_of_beq_eq_true he) hne
            have h2 : i ∉ anc (depsOf ops) j := fun hm => by
              have := anc_closed (deps := depsOf ops) (D := fun m => listed.getD m false = true) hcl hlj i hm
              rw [hun'] at this; cases this
            have h3 : memN evs j = false ∨ memN c j = true := by
              by_cases hje : j ∈ evs
              · right
                refine (memN_iff _ _).2 (Classical.byContradiction fun hno => ?_)
                rw [hc2 j hje hno] at hlj; cases hlj
              · exact .inl (memN_false hje)
            simp only [keepB, h1, memN_false h2, Bool.not_false, Bool.true_and]
            rcases h3 with h3 | h3 <;> simp [h3]
          refine ⟨c ++ [i], x', g2, bs2, hcs2, hI2, Le.trans hle hle2, hs2, fun m hm => ?_, fun m hme hmc => ?_, (hN _ rfl).1, (hN _ rfl).2, fun t ht => ?_, fun j r2 d2 hj hd2 hlj => ?_, hclN⟩
          · rw [getD_set _ _ _ hilt']
            rcases List.mem_append.1 hm with hm | hm
            · split
              · rfl
              · exact hc1 m hm
            · simp only [List.mem_singleton] at hm; subst hm; rw [if_pos rfl]
          · rw [getD_set _ _ _ hilt', if_neg (fun e => hmc (by subst e; simp))]
            exact hc2 m hme fun hm => hmc (by simp [hm])
          · cases hd : r.dst with
            | none => exact hlat.is (hout t ht)
            | some d => rw [hput d hd, if_neg (fun e => ht (by subst e; exact (mem_dsts l t).2 ⟨i, r, hri, hd⟩))]; exact hlat.is (hout t ht)
          · rw [getD_set _ _ _ hilt'] at hlj
            by_cases e : i = j
            · subst e
              rw [hri] at hj; injection hj with hj; subst hj
              rw [hd2, hput d2 hd2, if_pos rfl, ← hFi d2 hd2]
              have := ha2.is d2
              rw [hd2, hput d2 hd2, if_pos rfl] at this; exact this
            · rw [if_neg e] at hlj
              rw [hold j r2 d2 hj hd2 hlj (Ne.symm e)]
              have hb := hlat.is (hin j r2 d2 hj hd2 hlj)
              cases hd : r.dst with
              | none => exact hb
              | some d =>
                have hdd : d2 ≠ d := fun h => e (distinct_dst hdis i j r r2 d hri hj hd (by rw [hd2, h]))
                rw [hput d hd, if_neg hdd]; exact hb
        | false =>
          rw [hev] at hR
          obtain ⟨rfl, rfl, hFi⟩ := hR
          have hne : i ∉ evs := fun hm => by rw [(memN_iff _ _).2 hm] at hev; cases hev
          obtain ⟨d, hd⟩ : ∃ d, r.dst = some d := by
            cases hd : r.dst with
            | none => exact absurd (hst1 hd) hne
            | some d => exact ⟨d, rfl⟩
          have hnm : ∀ m, m ∈ evs → i ≠ m := fun m hm e => hne (by rw [e]; exact hm)
          have hcm : ∀ m ∈ c, i ≠ m := fun m hm => (hok.1 m hm).2
          rw [hd] at ha2 ⊢
          refine ⟨c, x, g2, bs2, hcs, hI, hle, hs2, fun m hm => ?_, fun m hme hmc => ?_, by simpa [Act.put] using hdef, by simpa [Act.put] using hsz, fun t ht => ?_, fun j r2 d2 hj hd2 hlj => ?_, hclN⟩
          · rw [getD_set _ _ _ hilt', if_neg (hcm m hm)]; exact hc1 m hm
          · rw [getD_set _ _ _ hilt', if_neg (hnm m hme)]; exact hc2 m hme hmc
          · rw [hput d hd, if_neg (fun e => ht (by subst e; exact (mem_dsts l t).2 ⟨i, r, hri, hd⟩))]; exact hout t ht
          · rw [getD_set _ _ _ hilt'] at hlj
            rw [hput d hd]
            by_cases e : i = j
            · subst e
              rw [hri] at hj; injection hj with hj; subst hj
              rw [hd] at hd2; injection hd2 with hd2; subst hd2
              rw [if_pos rfl, ← hFi d hd]
              have := ha2.is d
              rw [hput d hd, if_pos rfl] at this; exact this
            · rw [if_neg e] at hlj
              have hdd : d2 ≠ d := fun h => e (distinct_dst hdis i j r r2 d hri hj hd (by rw [hd2, h]))
              rw [if_neg hdd]; exact hin j r2 d2 hj hd2 hlj
  refine wp_region_any hm (key ops.size (Array.replicate ops.size false) a0 _ (by simp) ?_ ⟨[], x0, g, bs, hasL_iff.1 hc0, h0, Le.refl g, hs0.drew, by simp, fun m _ _ => ?_, ha0.defers, ha0.size, fun t _ => ha0.is t, fun i r d _ _ hi => ?_, fun i hi => ?_⟩)
  · have : (List.range ops.size).filter (fun i => !(Array.replicate ops.size false).getD i true) = List.range ops.size := by
      apply List.filter_eq_self.2
      intro i hi
      have := List.mem_range.1 hi
      simp [Array.getD_eq_getD_getElem?, this]
    rw [this, List.length_range]
  · simp only [Array.getD_eq_getD_getElem?, Array.getElem?_replicate]; split <;> rfl
  all_goals
    simp only [Array.getD_eq_getD_getElem?, Array.getElem?_replicate] at hi
    split at hi <;> simp at hi

end
end Go.Proofs.YtmolncgdehfejaaGreatDoor
