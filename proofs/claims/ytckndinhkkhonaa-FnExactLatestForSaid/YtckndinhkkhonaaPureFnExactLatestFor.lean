/- What the printed program answers at this law is true, for every argument. -/
import Derived.Test.YtckndinhkkhonaaQFnExactLatestForx6
import Derived.Test.YtckndinhkkhonaaPlain
import Derived.Test.YtckndinhkkhonaaGoalFnExactLatestFor
set_option linter.unusedVariables false
set_option linter.unusedSimpArgs false
namespace Go.Proofs.Ytckndinhkkhonaa.Pure
open Go.RowKit Go.Proofs.Ytckndinhkkhonaa.QFnExactLatestFor Go.Proofs.YtckndinhkkhonaaW.PrintWords Go.Proofs.YtckndinhkkhonaaW.PrintLast Go.Proofs.Ytckndinhkkhonaa.Plain Go.Proofs.Ytckndinhkkhonaa.GoalFnExactLatestFor

theorem rdContactL_eq (l : List S75) (i : Nat) (h : i < l.length) : rd_T75 l (i : Int) = l[i] := by
  simp [rd_T75, List.getD_eq_getElem?_getD, List.getElem?_eq_getElem h]
theorem rdContact_eq (l : List S53) (i : Nat) (h : i < l.length) : rd_T53 l (i : Int) = l[i] := by
  simp [rd_T53, List.getD_eq_getElem?_getD, List.getElem?_eq_getElem h]
def contactOf (x : S75) : S53 := ⟨x.f0, x.f1, x.f2, x.f3, x.f4⟩
theorem szContactS_val (l : List S75) (hl : l.length ≤ maxLen) : ∃ r, laws_szContactS.f l 1048576 = some r ∧ (0 ≤ r → l.length ≤ 1048576) := by
  unfold maxLen at hl
  have hw : wrap64 (1048576 - (l.length : Int)) = 1048576 - (l.length : Int) := w64 (by omega) (by omega)
  unfold laws_szContactS.f
  rw [hw]
  by_cases h : 1048576 - (l.length : Int) < 0
  · rw [if_pos h]; exact ⟨_, rfl, fun h => by omega⟩
  · rw [if_neg h]; exact ⟨_, rfl, fun h => by omega⟩
theorem toContactS_go (l : List S75) (hl : l.length ≤ 1048576) (d : Nat) : ∀ i : Nat, i ≤ l.length → l.length - i = d → Ev (fun k => laws_toContactS.l0 k l ((l.map contactOf).take i ++ List.replicate ((l.map contactOf).length - i) z53) (i : Int)) (l.map contactOf) := by
  induction d with
  | zero =>
    intro i h0 hd
    obtain rfl : i = l.length := by omega
    refine Ev.step (fun k => by rw [laws_toContactS.l0]) ?_
    exact Ev.ite_neg (by omega) (Ev.now' (by rw [List.length_map, Nat.sub_self, List.replicate_zero, List.append_nil, List.take_of_length_le (by simp)]))
  | succ d ih =>
    intro i h0 hd
    have hlt : i < l.length := by omega
    have hlt2 : i < (l.map contactOf).length := by simpa using hlt
    have hw : wrap64 ((i : Int) + 1) = ((i + 1 : Nat) : Int) := by rw [w64 (by omega) (by omega)]; omega
    have hlen : ((l.map contactOf).take i ++ List.replicate ((l.map contactOf).length - i) z53).length = l.length := by simp; omega
    have a := ih (i + 1) (by omega) (by omega)
    rw [← fill_step (l.map contactOf) z53 i hlt2] at a
    refine Ev.step (fun k => by rw [laws_toContactS.l0]) ?_
    refine Ev.ite_pos (by omega) (Ev.ite_pos (by omega) ?_)
    simp only [laws_toContact.f, Option.bind_some, hw, Int.toNat_natCast, rdContactL_eq l i hlt]
    refine Ev.ite_pos (by rw [hlen]; omega) ?_
    have e : (l.map contactOf)[i] = (⟨l[i].f0, l[i].f1, l[i].f2, l[i].f3, l[i].f4⟩ : S53) := by simp [contactOf]
    rw [e] at a
    exact a
theorem toContactS_val (l : List S75) (hl : l.length ≤ 1048576) : Ev (fun k => laws_toContactS.f k l) (l.map contactOf) := by
  have := toContactS_go l hl l.length 0 (by omega) (by omega)
  simp only [laws_toContactS.f, Int.toNat_natCast]
  refine Ev.ite_pos (by omega) (Ev.ite_pos (by omega) ?_)
  simpa using this
theorem eqContactS_go (l : List S53) (hl : l.length ≤ 1048576) (d : Nat) : ∀ i : Nat, l.length - i = d → Ev (fun k => laws_eqContactS.l0 k l l (i : Int)) true := by
  induction d with
  | zero =>
    intro i hd
    refine Ev.step (fun k => by rw [laws_eqContactS.l0]) ?_
    exact Ev.ite_neg (by omega) (Ev.now _)
  | succ d ih =>
    intro i hd
    have hw : wrap64 ((i : Int) + 1) = ((i + 1 : Nat) : Int) := by rw [w64 (by omega) (by omega)]; omega
    refine Ev.step (fun k => by rw [laws_eqContactS.l0]) ?_
    refine Ev.ite_pos (by omega) (Ev.ite_pos (by omega) (Ev.ite_pos (by omega) ?_))
    simp only [laws_eqContact.f, if_true, Option.bind_some]
    rw [hw]
    exact ih (i + 1) (by omega)
theorem eqContactS_self (l : List S53) (hl : l.length ≤ 1048576) : Ev (fun k => laws_eqContactS.f k l l) true := by
  simp only [laws_eqContactS.f, if_true]
  exact eqContactS_go l hl l.length 0 (by omega)
/-- Whether contacts are a plan. -/
def planB (l : List S53) : Bool := decide ((l.length : Int) ≤ 20) && !l.any badC
theorem l6Node_val (n : Int) : spec_l6Node.f n = some (inB n 0 7) := by
  unfold spec_l6Node.f inB
  by_cases h : n ≥ 0
  · rw [if_pos h]; simp only [show (0 : Int) ≤ n from h, decide_true, Bool.true_and]; congr 1; exact decide_eq_decide.mpr (by omega)
  · rw [if_neg h]; simp only [show ¬ (0 : Int) ≤ n from h, decide_false, Bool.false_and]
theorem l1In_val (n a b : Int) : spec_l1In.f n a b = some (inB n a b) := by
  unfold spec_l1In.f inB
  by_cases h : n ≥ a
  · rw [if_pos h]; simp only [show a ≤ n from h, decide_true, Bool.true_and]
  · rw [if_neg h]; simp only [show ¬ a ≤ n from h, decide_false, Bool.false_and]
theorem l6When_val (n : Int) : spec_l6When.f n = some (inB n 0 1000) := by
  unfold spec_l6When.f
  rw [l1In_val]; rfl
theorem badC_iff (x : S53) : badC x = false ↔ inB x.f0 0 7 = true ∧ inB x.f1 0 7 = true ∧ x.f0 ≠ x.f1 ∧ inB x.f3 0 1000 = true ∧ ¬ x.f2 < 0 ∧ ¬ x.f2 ≥ x.f3 ∧ inB x.f4 0 100 = true := by
  simp only [badC, unlikeB, inB, Bool.or_eq_false_iff, Bool.not_eq_false', Bool.and_eq_true, decide_eq_true_eq, decide_eq_false_iff_not, ne_eq]
  omega
theorem goodPlan_go (l : List S53) (hl : l.length ≤ 1048576) (d : Nat) : ∀ i : Nat, i ≤ l.length → l.length - i = d → (l.take i).any badC = false → Ev (fun k => spec_GoodPlan.l0 k l l (l.length : Int) (i : Int)) (planB l) := by
  induction d with
  | zero =>
    intro i h0 hd hb
    refine Ev.step (fun k => by rw [spec_GoodPlan.l0]) ?_
    obtain rfl : i = l.length := by omega
    rw [List.take_length] at hb
    exact Ev.ite_neg (by omega) (Ev.now' (by rw [planB, hb]; simp))
  | succ d ih =>
    intro i h0 hd hb
    have hi : i < l.length := by omega
    have hw : wrap64 ((i : Int) + 1) = ((i + 1 : Nat) : Int) := by rw [w64 (by omega) (by omega)]; omega
    refine Ev.step (fun k => by rw [spec_GoodPlan.l0]) ?_
    refine Ev.ite_pos (by omega) (Ev.ite_pos (by omega) (Ev.ite_pos (by omega) ?_))
    simp only [rdContact_eq l i hi, l6Node_val, l6When_val, l1In_val, Option.bind_some, hw]
    have hm : l[i] ∈ l := List.getElem_mem hi
    have bad : badC l[i] = true → planB l = false := fun h => by
      rw [planB, List.any_eq_true.mpr ⟨_, hm, h⟩]; simp
    have ht : badC l[i] = false → (l.take (i + 1)).any badC = false := fun h => by
      rw [List.take_succ_eq_append_getElem hi, List.any_append, hb]; simp [h]
    have next := fun h => ih (i + 1) (by omega) (by omega) (ht h)
    have key := badC_iff l[i]
    generalize l[i] = x at bad next key
    cases hq : badC x with
    | true =>
      rw [bad hq]
      have hk : ¬ (inB x.f0 0 7 = true ∧ inB x.f1 0 7 = true ∧ x.f0 ≠ x.f1 ∧ inB x.f3 0 1000 = true ∧ ¬ x.f2 < 0 ∧ ¬ x.f2 ≥ x.f3 ∧ inB x.f4 0 100 = true) := fun h => by rw [key.mpr h] at hq; cases hq
      refine Ev.ite (fun a1 => Ev.ite (fun a2 => Ev.ite (fun a3 => Ev.now _) fun a3 => Ev.ite (fun a4 => Ev.ite (fun a5 => Ev.now _) fun a5 => Ev.ite (fun a6 => Ev.now _) fun a6 => Ev.ite (fun a7 => absurd ⟨a1, a2, a3, a4, a5, a6, a7⟩ hk) fun a7 => Ev.now _) fun a4 => Ev.now _) fun a2 => Ev.now _) fun a1 => Ev.now _
    | false =>
      obtain ⟨a1, a2, a3, a4, a5, a6, a7⟩ := key.mp hq
      exact Ev.ite_pos a1 (Ev.ite_pos a2 (Ev.ite_neg a3 (Ev.ite_pos a4 (Ev.ite_neg a5 (Ev.ite_neg a6 (Ev.ite_pos a7 (next hq)))))))
theorem specPlan_val (l : List S53) (hl : l.length ≤ 1048576) : Ev (fun k => spec_GoodPlan.f k l) (planB l) := by
  simp only [spec_GoodPlan.f]
  exact goodPlan_go l hl l.length 0 (by omega) (by omega) (by simp)
theorem implPlan_val (l : List S53) : impl_GoodPlan.f l = some (planB l) := rfl
structure PlanOk (l : List S53) : Prop where
  len : l.length ≤ 20
  at_ : ∀ i : Nat, i < l.length → (0 ≤ (rd_T53 l (i : Int)).f0 ∧ (rd_T53 l (i : Int)).f0 ≤ 7) ∧ (0 ≤ (rd_T53 l (i : Int)).f1 ∧ (rd_T53 l (i : Int)).f1 ≤ 7) ∧ (rd_T53 l (i : Int)).f0 ≠ (rd_T53 l (i : Int)).f1 ∧ (0 ≤ (rd_T53 l (i : Int)).f2 ∧ (rd_T53 l (i : Int)).f2 < (rd_T53 l (i : Int)).f3 ∧ (rd_T53 l (i : Int)).f3 ≤ 1000) ∧ (0 ≤ (rd_T53 l (i : Int)).f4 ∧ (rd_T53 l (i : Int)).f4 ≤ 100)
theorem inB_iff {a b c : Int} : inB a b c = true ↔ b ≤ a ∧ a ≤ c := by simp [inB]
theorem planB_ok {l : List S53} (h : planB l = true) : PlanOk l := by
  unfold planB at h
  rw [Bool.and_eq_true] at h
  obtain ⟨h0, h1⟩ := h
  have h0 := of_decide_eq_true h0
  refine ⟨by omega, fun i hi => ?_⟩
  rw [rdContact_eq l i hi]
  have hb : badC l[i] = false := by
    cases hq : badC l[i] with
    | false => rfl
    | true => rw [List.any_eq_true.mpr ⟨_, List.getElem_mem hi, hq⟩] at h1; exact absurd h1 (by decide)
  obtain ⟨a1, a2, a3, a4, a5, a6, a7⟩ := (badC_iff _).mp hb
  rw [inB_iff] at a1 a2 a4 a7
  exact ⟨a1, a2, a3, ⟨by omega, by omega, a4.2⟩, a7⟩
theorem within_val (a b c : Int) : impl_within.f a b c = some (inB a b c) := by
  unfold impl_within.f inB
  by_cases h : b ≤ a
  · rw [if_pos h]; simp only [h, decide_true, Bool.true_and]
  · rw [if_neg h]; simp only [h, decide_false, Bool.false_and]
theorem rd_set_if (W : List Int) (v u x : Int) (h0 : 0 ≤ v) (h1 : v < (W.length : Int)) (h2 : 0 ≤ u) : rd (W.set v.toNat x) u = if u = v then x else rd W u := by
  obtain ⟨a, rfl⟩ := Int.eq_ofNat_of_zero_le h0
  obtain ⟨b, rfl⟩ := Int.eq_ofNat_of_zero_le h2
  simp only [Int.toNat_natCast]
  by_cases e : (b : Int) = (a : Int)
  · rw [if_pos e]
    obtain rfl : b = a := by omega
    exact rd_set_same W b (by omega) x
  · rw [if_neg e]
    exact rd_set_ne W a b (by omega) x
/-- When one is there by a contact. -/
def arr (W : List Int) (x : S53) : Int := (if rd W x.f0 < x.f2 then x.f2 else rd W x.f0) + x.f4
/-- A contact brings one there earlier. -/
def Imp (W : List Int) (x : S53) : Prop := 0 ≤ rd W x.f0 ∧ rd W x.f0 < x.f3 ∧ (rd W x.f1 < 0 ∨ arr W x < rd W x.f1)
structure Scan (l : List S53) (W : List Int) (i : Nat) (b t : Int) : Prop where
  sign : b = -1 ∨ 0 ≤ b
  best : 0 ≤ b → b < (i : Int) ∧ Imp W (rd_T53 l b) ∧ t = arr W (rd_T53 l b)
  least : ∀ j : Nat, j < i → Imp W (rd_T53 l (j : Int)) → 0 ≤ b ∧ t ≤ arr W (rd_T53 l (j : Int))
theorem Scan.keep {l : List S53} {W : List Int} {i : Nat} {b t : Int} (h : Scan l W i b t) (hi : Imp W (rd_T53 l (i : Int)) → 0 ≤ b ∧ t ≤ arr W (rd_T53 l (i : Int))) : Scan l W (i + 1) b t :=
  ⟨h.sign, fun hb => by obtain ⟨a, c⟩ := h.best hb; exact ⟨by omega, c⟩, fun j hj => by
    rcases Nat.lt_or_ge j i with h1 | h1
    · exact h.least j h1
    · obtain rfl : j = i := by omega
      exact hi⟩
theorem Scan.take {l : List S53} {W : List Int} {i : Nat} {b t : Int} (h : Scan l W i b t) (hi : Imp W (rd_T53 l (i : Int))) (hb : b < 0 ∨ arr W (rd_T53 l (i : Int)) < t) : Scan l W (i + 1) (i : Int) (arr W (rd_T53 l (i : Int))) :=
  ⟨.inr (by omega), fun _ => ⟨by omega, hi, rfl⟩, fun j hj hj2 => by
    refine ⟨by omega, ?_⟩
    rcases Nat.lt_or_ge j i with h1 | h1
    · obtain ⟨p, q⟩ := h.least j h1 hj2
      rcases hb with hb | hb
      · omega
      · omega
    · obtain rfl : j = i := by omega
      exact Int.le_refl _⟩
theorem arr_bd {x : S53} {W : List Int} (h : (0 ≤ x.f2 ∧ x.f2 < x.f3 ∧ x.f3 ≤ 1000) ∧ (0 ≤ x.f4 ∧ x.f4 ≤ 100)) (h0 : 0 ≤ rd W x.f0) (h1 : rd W x.f0 < x.f3) : 0 ≤ arr W x ∧ arr W x ≤ 1100 ∧ rd W x.f0 ≤ arr W x := by
  unfold arr
  by_cases c : rd W x.f0 < x.f2
  · rw [if_pos c]; omega
  · rw [if_neg c]; omega
theorem over_val {x : S53} {W : List Int} (h : (0 ≤ x.f2 ∧ x.f2 < x.f3 ∧ x.f3 ≤ 1000) ∧ (0 ≤ x.f4 ∧ x.f4 ≤ 100)) (h0 : 0 ≤ rd W x.f0) (hm : rd W x.f0 ≤ 2000) :
    spec_l6Over.f x.f0 x.f1 x.f2 x.f3 x.f4 (rd W x.f0) = some (if rd W x.f0 < x.f3 then arr W x else -1) ∧ impl_Contact_by.f x.f0 x.f1 x.f2 x.f3 x.f4 (rd W x.f0) = some (arr W x, decide (rd W x.f0 < x.f3)) := by
  obtain ⟨⟨a0, a1, a2⟩, b0, b1⟩ := h
  have w1 : wrap64 (x.f2 + x.f4) = x.f2 + x.f4 := w64 (by omega) (by omega)
  have w2 : wrap64 (rd W x.f0 + x.f4) = rd W x.f0 + x.f4 := w64 (by omega) (by omega)
  unfold spec_l6Over.f impl_Contact_by.f mx arr
  by_cases c : rd W x.f0 < x.f3
  · rw [if_neg (show ¬ rd W x.f0 ≥ x.f3 by omega), if_pos c]
    by_cases c2 : rd W x.f0 < x.f2
    · refine ⟨?_, ?_⟩ <;> simp only [if_pos c2, w1, decide_eq_true a1, decide_eq_true c]
    · refine ⟨?_, ?_⟩ <;> simp only [if_neg c2, w2]
  · rw [if_pos (show rd W x.f0 ≥ x.f3 by omega), if_neg c, if_neg (show ¬ rd W x.f0 < x.f2 by omega), w2]
    exact ⟨rfl, rfl⟩
section
variable {l : List S53} {W L : List Int}
theorem scan_step (hp : PlanOk l) (hW : W.length = 8) (hb : ∀ n : Int, 0 ≤ n → n < 8 → rd W n ≤ 2000) (i : Nat) (hi : i < l.length) (b t : Int) (hs : Scan l W i b t) :
    ∃ b2 t2, Scan l W (i + 1) b2 t2 ∧ (∀ r, Ev (fun k => spec_l6Search.l2 k l W L b2 t2 l (l.length : Int) ((i + 1 : Nat) : Int)) r → Ev (fun k => spec_l6Search.l2 k l W L b t l (l.length : Int) (i : Int)) r) ∧
      (∀ r, Ev (fun k => impl_reach.l1 k l W L b2 t2 l (l.length : Int) ((i + 1 : Nat) : Int)) r → Ev (fun k => impl_reach.l1 k l W L b t l (l.length : Int) (i : Int)) r) := by
  have h20 := hp.len
  have hw : wrap64 ((i : Int) + 1) = ((i + 1 : Nat) : Int) := by rw [w64 (by omega) (by omega)]; omega
  obtain ⟨⟨a0, a1⟩, ⟨b0, b1⟩, _, hx⟩ := hp.at_ i hi
  have openS : ∀ {r}, _ → Ev (fun k => spec_l6Search.l2 k l W L b t l (l.length : Int) (i : Int)) r := fun {r} h => Ev.step (r := r) (fun k => by rw [spec_l6Search.l2]) (Ev.ite_pos (by omega) (Ev.ite_pos (by omega) (Ev.ite_pos (by omega) (Ev.ite_pos a0 (Ev.ite_pos (by omega) h)))))
  have openI : ∀ {r}, _ → Ev (fun k => impl_reach.l1 k l W L b t l (l.length : Int) (i : Int)) r := fun {r} h => Ev.step (r := r) (fun k => by rw [impl_reach.l1]) (Ev.ite_pos (by omega) (Ev.ite_pos (by omega) (Ev.ite_pos (by omega) (Ev.ite_pos a0 (Ev.ite_pos (by omega) h)))))
  by_cases c0 : rd W (rd_T53 l (i : Int)).f0 < 0
  · refine ⟨b, t, hs.keep (fun h => absurd h.1 (by omega)), fun r h => openS (Ev.ite_pos c0 ?_), fun r h => openI (Ev.ite_pos c0 ?_)⟩
    · rw [hw]; exact h
    · rw [hw]; exact h
  obtain ⟨e1, e2⟩ := over_val (W := W) hx (by omega) (hb _ a0 (by omega))
  by_cases c1 : rd W (rd_T53 l (i : Int)).f0 < (rd_T53 l (i : Int)).f3
  case neg =>
    rw [if_neg c1] at e1
    rw [decide_eq_false c1] at e2
    refine ⟨b, t, hs.keep (fun h => absurd h.2.1 c1), fun r h => openS (Ev.ite_neg c0 (Ev.opt_bind e1 (Ev.ite_pos (by omega) ?_))), fun r h => openI (Ev.ite_neg c0 (Ev.opt_bind e2 (Ev.ite_neg (by simp) ?_)))⟩
    · refine Ev.step (fun k => by rw [spec_l6Search.j3]) ?_
      rw [hw]
      exact Ev.ite_pos rfl h
    · rw [hw]; exact h
  rw [if_pos c1] at e1
  rw [decide_eq_true c1] at e2
  obtain ⟨v0, v1, _⟩ := arr_bd (W := W) hx (by omega) c1
  have goS : ∀ {r} (q : Bool), (rd W (rd_T53 l (i : Int)).f1 ≥ 0 → decide (rd W (rd_T53 l (i : Int)).f1 ≤ arr W (rd_T53 l (i : Int))) = q) → (¬ rd W (rd_T53 l (i : Int)).f1 ≥ 0 → false = q) → Ev (fun k => spec_l6Search.j3 k l W L b t (i : Int) (arr W (rd_T53 l (i : Int))) l (l.length : Int) (i : Int) q) r → Ev (fun k => spec_l6Search.l2 k l W L b t l (l.length : Int) (i : Int)) r := fun {r} q q1 q2 h =>
    openS (Ev.ite_neg c0 (Ev.opt_bind e1 (Ev.ite_neg (by omega) (Ev.ite_pos b0 (Ev.ite_pos (by omega) (Ev.ite (fun c => by rw [q1 c]; exact h) (fun c => by have := q2 c; subst this; exact h)))))))
  by_cases ci : Imp W (rd_T53 l (i : Int))
  case neg =>
    have cc : 0 ≤ rd W (rd_T53 l (i : Int)).f1 ∧ rd W (rd_T53 l (i : Int)).f1 ≤ arr W (rd_T53 l (i : Int)) := by
      refine ⟨?_, ?_⟩
      · rcases Int.lt_or_le (rd W (rd_T53 l (i : Int)).f1) 0 with h | h
        · exact absurd ⟨by omega, c1, .inl h⟩ ci
        · exact h
      · rcases Int.lt_or_le (arr W (rd_T53 l (i : Int))) (rd W (rd_T53 l (i : Int)).f1) with h | h
        · exact absurd ⟨by omega, c1, .inr h⟩ ci
        · exact h
    refine ⟨b, t, hs.keep (fun h => absurd h ci), fun r h => goS true (fun _ => decide_eq_true cc.2) (fun c => absurd cc.1 c) ?_, fun r h => openI (Ev.ite_neg c0 (Ev.opt_bind e2 (Ev.ite_pos rfl (Ev.ite_pos b0 (Ev.ite_pos (by omega) (Ev.ite_neg (by omega) (Ev.ite_neg ?_ ?_)))))))⟩
    · refine Ev.step (fun k => by rw [spec_l6Search.j3]) ?_
      rw [hw]
      exact Ev.ite_pos rfl h
    · have := cc.2; show ¬ arr W (rd_T53 l (i : Int)) < rd W (rd_T53 l (i : Int)).f1; omega
    · rw [hw]; exact h
  have n1 : rd W (rd_T53 l (i : Int)).f1 ≥ 0 → ¬ rd W (rd_T53 l (i : Int)).f1 ≤ arr W (rd_T53 l (i : Int)) := fun h => by rcases ci.2.2 with h2 | h2 <;> omega
  have goI : ∀ {r}, (Ev (fun k => if b < 0 then impl_reach.l1 k l W L (i : Int) (arr W (rd_T53 l (i : Int))) l (l.length : Int) (wrap64 ((i : Int) + 1)) else if arr W (rd_T53 l (i : Int)) < t then impl_reach.l1 k l W L (i : Int) (arr W (rd_T53 l (i : Int))) l (l.length : Int) (wrap64 ((i : Int) + 1)) else impl_reach.l1 k l W L b t l (l.length : Int) (wrap64 ((i : Int) + 1))) r) → Ev (fun k => impl_reach.l1 k l W L b t l (l.length : Int) (i : Int)) r := fun {r} h =>
    openI (Ev.ite_neg c0 (Ev.opt_bind e2 (Ev.ite_pos rfl (Ev.ite_pos b0 (Ev.ite_pos (by omega) (Ev.ite (fun _ => h) (fun c => Ev.ite_pos (by have := n1 (by omega); show arr W (rd_T53 l (i : Int)) < rd W (rd_T53 l (i : Int)).f1; omega) h)))))))
  by_cases cb : b < 0 ∨ arr W (rd_T53 l (i : Int)) < t
  · refine ⟨_, _, hs.take ci cb, fun r h => goS false (fun c => decide_eq_false (n1 c)) (fun _ => rfl) ?_, fun r h => goI ?_⟩
    · refine Ev.step (fun k => by rw [spec_l6Search.j3]) ?_
      rw [hw]
      exact Ev.ite_neg (by decide) (Ev.ite (fun _ => h) (fun c => Ev.ite_pos (by omega) h))
    · rw [hw]
      exact Ev.ite (fun _ => h) (fun c => Ev.ite_pos (by omega) h)
  · refine ⟨b, t, hs.keep (fun _ => by omega), fun r h => goS false (fun c => decide_eq_false (n1 c)) (fun _ => rfl) ?_, fun r h => goI ?_⟩
    · refine Ev.step (fun k => by rw [spec_l6Search.j3]) ?_
      rw [hw]
      exact Ev.ite_neg (by decide) (Ev.ite_neg (by omega) (Ev.ite_neg (by omega) h))
    · rw [hw]
      exact Ev.ite_neg (by omega) (Ev.ite_neg (by omega) h)
theorem scan_all (hp : PlanOk l) (hW : W.length = 8) (hb : ∀ n : Int, 0 ≤ n → n < 8 → rd W n ≤ 2000) (d : Nat) : ∀ (i : Nat) (b t : Int), i ≤ l.length → l.length - i = d → Scan l W i b t →
    ∃ b2 t2, Scan l W l.length b2 t2 ∧ (∀ r, Ev (fun k => spec_l6Search.l2 k l W L b2 t2 l (l.length : Int) (l.length : Int)) r → Ev (fun k => spec_l6Search.l2 k l W L b t l (l.length : Int) (i : Int)) r) ∧
      (∀ r, Ev (fun k => impl_reach.l1 k l W L b2 t2 l (l.length : Int) (l.length : Int)) r → Ev (fun k => impl_reach.l1 k l W L b t l (l.length : Int) (i : Int)) r) := by
  induction d with
  | zero =>
    intro i b t h0 hd hs
    obtain rfl : i = l.length := by omega
    exact ⟨b, t, hs, fun _ h => h, fun _ h => h⟩
  | succ d ih =>
    intro i b t h0 hd hs
    obtain ⟨b1, t1, s1, x1, y1⟩ := scan_step (L := L) hp hW hb i (by omega) b t hs
    obtain ⟨b2, t2, s2, x2, y2⟩ := ih (i + 1) b1 t1 (by omega) (by omega) s1
    exact ⟨b2, t2, s2, fun r h => x1 r (x2 r h), fun r h => y1 r (y2 r h)⟩
/-- How many nodes are not reached. -/
def unset (W : List Int) : Nat := W.countP (fun x => decide (x < 0))
structure Tree (l : List S53) (from_ : Int) (W L : List Int) (M : Int) (rk : Int → Nat) : Prop where
  lenW : W.length = 8
  lenL : L.length = 8
  top : 0 ≤ M ∧ M ≤ 1100
  low : ∀ n : Int, 0 ≤ n → n < 8 → -1 ≤ rd W n ∧ rd W n ≤ M
  root : 0 ≤ rd W from_
  late : ∀ j : Nat, j < l.length → Imp W (rd_T53 l (j : Int)) → M ≤ arr W (rd_T53 l (j : Int))
  up : ∀ n : Int, 0 ≤ n → n < 8 → n ≠ from_ → 0 ≤ rd W n → 0 ≤ rd L n ∧ rd L n < (l.length : Int) ∧ (rd_T53 l (rd L n)).f1 = n ∧ 0 ≤ rd W (rd_T53 l (rd L n)).f0 ∧ rk (rd_T53 l (rd L n)).f0 < rk n ∧ rd W (rd_T53 l (rd L n)).f0 < (rd_T53 l (rd L n)).f3 ∧ rd W n = arr W (rd_T53 l (rd L n))
  rank : ∀ n : Int, 0 ≤ n → n < 8 → 0 ≤ rd W n → rk n + unset W < 8
theorem unset_set (hW : W.length = 8) (v x : Int) (h0 : 0 ≤ v) (h1 : v < 8) (hv : rd W v < 0) (hx : 0 ≤ x) : unset (W.set v.toNat x) + 1 = unset W := by
  obtain ⟨a, rfl⟩ := Int.eq_ofNat_of_zero_le h0
  have ha : a < W.length := by omega
  rw [rd_eq W a ha] at hv
  unfold unset
  rw [Int.toNat_natCast, List.countP_set ha]
  have hpos : 0 < W.countP (fun x => decide (x < 0)) := List.countP_pos_iff.mpr ⟨W[a], List.getElem_mem ha, decide_eq_true hv⟩
  rw [if_pos (decide_eq_true hv), if_neg (by simp; omega)]
  omega
theorem Tree.step {from_ M : Int} {rk : Int → Nat} (hp : PlanOk l) (hf : 0 ≤ from_ ∧ from_ < 8) (T : Tree l from_ W L M rk) {b t : Int} (hb : 0 ≤ b) (hbl : b < (l.length : Int)) (hi : Imp W (rd_T53 l b)) (ht : t = arr W (rd_T53 l b))
    (least : ∀ j : Nat, j < l.length → Imp W (rd_T53 l (j : Int)) → t ≤ arr W (rd_T53 l (j : Int))) :
    (0 ≤ (rd_T53 l b).f1 ∧ (rd_T53 l b).f1 < 8) ∧ rd W (rd_T53 l b).f1 < 0 ∧ 0 ≤ t ∧ ∃ rk', Tree l from_ (W.set ((rd_T53 l b).f1).toNat t) (L.set ((rd_T53 l b).f1).toNat b) t rk' := by
  obtain ⟨m, rfl⟩ := Int.eq_ofNat_of_zero_le hb
  obtain ⟨⟨a0, a1⟩, ⟨b0, b1⟩, ne, hx⟩ := hp.at_ m (by omega)
  obtain ⟨v0, v1, v2⟩ := arr_bd (W := W) hx hi.1 hi.2.1
  have hM : M ≤ t := by rw [ht]; exact T.late m (by omega) hi
  have hv : rd W (rd_T53 l (m : Int)).f1 < 0 := by
    rcases hi.2.2 with h | h
    · exact h
    · have := (T.low (rd_T53 l (m : Int)).f1 b0 (by omega)).2; omega
  have ht0 : 0 ≤ t := by omega
  have hne : from_ ≠ (rd_T53 l (m : Int)).f1 := fun e => by have := T.root; rw [e] at this; omega
  have rW : ∀ n : Int, 0 ≤ n → rd (W.set ((rd_T53 l (m : Int)).f1).toNat t) n = if n = (rd_T53 l (m : Int)).f1 then t else rd W n := fun n hn => rd_set_if W _ n t b0 (by rw [T.lenW]; omega) hn
  have rL : ∀ n : Int, 0 ≤ n → rd (L.set ((rd_T53 l (m : Int)).f1).toNat (m : Int)) n = if n = (rd_T53 l (m : Int)).f1 then (m : Int) else rd L n := fun n hn => rd_set_if L _ n m b0 (by rw [T.lenL]; omega) hn
  refine ⟨⟨b0, by omega⟩, hv, ht0, fun n => if n = (rd_T53 l (m : Int)).f1 then 7 - unset (W.set ((rd_T53 l (m : Int)).f1).toNat t) else rk n, ?_⟩
  have hu := unset_set (W := W) T.lenW _ t b0 (by omega) hv ht0
  have hr0 := T.rank (rd_T53 l (m : Int)).f0 a0 (by omega) hi.1
  -- a contact of the new tree
  have arr_same : ∀ x : S53, 0 ≤ x.f0 → x.f0 ≠ (rd_T53 l (m : Int)).f1 → arr (W.set ((rd_T53 l (m : Int)).f1).toNat t) x = arr W x := fun x h0 h => by
    unfold arr
    rw [rW _ h0, if_neg h]
  refine ⟨by rw [List.length_set]; exact T.lenW, by rw [List.length_set]; exact T.lenL, ⟨ht0, by omega⟩, fun n h0 h1 => ?_, ?_, fun j hj hj2 => ?_, fun n h0 h1 hnf hn => ?_, fun n h0 h1 hn => ?_⟩
  · rw [rW n h0]
    by_cases e : n = (rd_T53 l (m : Int)).f1
    · rw [if_pos e]; omega
    · rw [if_neg e]; have := T.low n h0 h1; omega
  · rw [rW _ hf.1, if_neg hne]; exact T.root
  · obtain ⟨⟨p0, p1⟩, ⟨q0, q1⟩, _, hy⟩ := hp.at_ j hj
    by_cases e : (rd_T53 l (j : Int)).f0 = (rd_T53 l (m : Int)).f1
    · have h0 := hj2.1
      have h1 := hj2.2.1
      obtain ⟨_, _, z⟩ := arr_bd (W := W.set ((rd_T53 l (m : Int)).f1).toNat t) hy h0 h1
      rw [rW _ p0, if_pos e] at z
      exact z
    · rw [arr_same _ p0 e]
      refine least j hj ?_
      obtain ⟨i0, i1, i2⟩ := hj2
      rw [arr_same _ p0 e] at i2
      rw [rW _ p0, if_neg e] at i0 i1
      rw [rW _ q0] at i2
      refine ⟨i0, i1, ?_⟩
      by_cases e2 : (rd_T53 l (j : Int)).f1 = (rd_T53 l (m : Int)).f1
      · rw [e2]; exact .inl hv
      · rw [if_neg e2] at i2; exact i2
  · rw [rW n h0] at hn
    rw [rL n h0]
    by_cases e : n = (rd_T53 l (m : Int)).f1
    · rw [if_pos e]
      simp only [rW _ a0, rW n h0, if_neg ne, if_pos e, arr_same _ a0 ne]
      exact ⟨hb, hbl, e.symm, hi.1, by omega, hi.2.1, ht⟩
    · rw [if_neg e]
      rw [if_neg e] at hn
      obtain ⟨k0, k1, k2, k3, k4, k5, k6⟩ := T.up n h0 h1 hnf hn
      have hk := hp.at_ (rd L n).toNat (by omega)
      rw [Int.toNat_of_nonneg k0] at hk
      have hne2 : (rd_T53 l (rd L n)).f0 ≠ (rd_T53 l (m : Int)).f1 := fun e2 => by rw [e2] at k3; omega
      simp only [rW _ hk.1.1, if_neg hne2, rW n h0, if_neg e, arr_same _ hk.1.1 hne2]
      exact ⟨k0, k1, k2, k3, k4, k5, k6⟩
  · rw [rW n h0] at hn
    by_cases e : n = (rd_T53 l (m : Int)).f1
    · show (if n = (rd_T53 l (m : Int)).f1 then 7 - unset (W.set ((rd_T53 l (m : Int)).f1).toNat t) else rk n) + _ < 8
      rw [if_pos e]; omega
    · rw [if_neg e] at hn
      show (if n = (rd_T53 l (m : Int)).f1 then 7 - unset (W.set ((rd_T53 l (m : Int)).f1).toNat t) else rk n) + _ < 8
      rw [if_neg e]
      have := T.rank n h0 h1 hn; omega
theorem reach_go (hp : PlanOk l) {from_ : Int} (hf : 0 ≤ from_ ∧ from_ < 8) (u : Nat) : ∀ (W L : List Int) (M : Int) (rk : Int → Nat), unset W ≤ u → Tree l from_ W L M rk →
    ∃ (W' L' : List Int) (M' : Int) (rk' : Int → Nat), Tree l from_ W' L' M' rk' ∧ (∀ j : Nat, j < l.length → ¬ Imp W' (rd_T53 l (j : Int))) ∧ rd W' from_ = rd W from_ ∧
      Ev (fun k => spec_l6Search.l1 k l W L) (W', L') ∧ Ev (fun k => impl_reach.l0 k l W L) (W', L') := by
  induction u with
  | zero =>
    intro W L M rk hu T
    obtain ⟨b, t, hs, x, y⟩ := scan_all (L := L) hp T.lenW (fun n h0 h1 => by have := (T.low n h0 h1).2; have := T.top.2; omega) l.length 0 (-1) 0 (by omega) (by omega) ⟨.inl rfl, fun h => absurd h (by decide), fun j hj => by omega⟩
    by_cases hb : b < 0
    · refine ⟨W, L, M, rk, T, fun j hj hi => by have := (hs.least j hj hi).1; omega, rfl, Ev.step (fun k => by rw [spec_l6Search.l1]; rfl) (x _ ?_), Ev.step (fun k => by rw [impl_reach.l0]; rfl) (y _ ?_)⟩
      · exact Ev.step (fun k => by rw [spec_l6Search.l2]) (Ev.ite_neg (by omega) (Ev.ite_pos hb (Ev.now _)))
      · exact Ev.step (fun k => by rw [impl_reach.l1]) (Ev.ite_neg (by omega) (Ev.ite_pos hb (Ev.now _)))
    · obtain ⟨b1, bi, bt⟩ := hs.best (by omega)
      obtain ⟨⟨f0, f1⟩, hv, ht0, rk', T'⟩ := T.step hp hf (by omega) b1 bi bt (fun j hj hi => (hs.least j hj hi).2)
      have := unset_set T.lenW _ t f0 f1 hv ht0
      omega
  | succ u ih =>
    intro W L M rk hu T
    obtain ⟨b, t, hs, x, y⟩ := scan_all (L := L) hp T.lenW (fun n h0 h1 => by have := (T.low n h0 h1).2; have := T.top.2; omega) l.length 0 (-1) 0 (by omega) (by omega) ⟨.inl rfl, fun h => absurd h (by decide), fun j hj => by omega⟩
    by_cases hb : b < 0
    · refine ⟨W, L, M, rk, T, fun j hj hi => by have := (hs.least j hj hi).1; omega, rfl, Ev.step (fun k => by rw [spec_l6Search.l1]; rfl) (x _ ?_), Ev.step (fun k => by rw [impl_reach.l0]; rfl) (y _ ?_)⟩
      · exact Ev.step (fun k => by rw [spec_l6Search.l2]) (Ev.ite_neg (by omega) (Ev.ite_pos hb (Ev.now _)))
      · exact Ev.step (fun k => by rw [impl_reach.l1]) (Ev.ite_neg (by omega) (Ev.ite_pos hb (Ev.now _)))
    · obtain ⟨b1, bi, bt⟩ := hs.best (by omega)
      obtain ⟨⟨f0, f1⟩, hv, ht0, rk', T'⟩ := T.step hp hf (by omega) b1 bi bt (fun j hj hi => (hs.least j hj hi).2)
      have hu2 := unset_set T.lenW _ t f0 f1 hv ht0
      obtain ⟨W', L', M', rk2, T2, fin, e, p, q⟩ := ih _ _ _ _ (by omega) T'
      have hne : from_ ≠ (rd_T53 l b).f1 := fun e => by have := T.root; rw [e] at this; omega
      rw [rd_set_if W _ _ t f0 (by rw [T.lenW]; exact f1) hf.1, if_neg hne] at e
      refine ⟨W', L', M', rk2, T2, fin, e, Ev.step (fun k => by rw [spec_l6Search.l1]; rfl) (x _ ?_), Ev.step (fun k => by rw [impl_reach.l0]; rfl) (y _ ?_)⟩
      · exact Ev.step (fun k => by rw [spec_l6Search.l2]) (Ev.ite_neg (by omega) (Ev.ite_neg hb (Ev.ite_pos (by omega) (Ev.ite_pos b1 (Ev.ite_pos f0 (Ev.ite_pos (by rw [T.lenW]; exact f1) (Ev.ite_pos (by rw [T.lenL]; exact f1) p)))))))
      · exact Ev.step (fun k => by rw [impl_reach.l1]) (Ev.ite_neg (by omega) (Ev.ite_neg hb (Ev.ite_pos (by omega) (Ev.ite_pos b1 (Ev.ite_pos f0 (Ev.ite_pos (by rw [T.lenW]; exact f1) (Ev.ite_pos (by rw [T.lenL]; exact f1) q)))))))
end
/-- What the search tells. -/
structure Found (l : List S53) (from_ at_ : Int) (W L : List Int) : Prop where
  tree : ∃ M rk, Tree l from_ W L M rk
  still : ∀ j : Nat, j < l.length → ¬ Imp W (rd_T53 l (j : Int))
  root : rd W from_ = at_
theorem fill8 (l : List S53) (from_ at_ : Int) (d : Nat) : ∀ (i : Nat) (r : List Int × List Int), i ≤ 8 → 8 - i = d → (0 ≤ from_ ∧ from_ < 8) →
    Ev (fun k => spec_l6Search.l1 k l ((List.replicate 8 (-1)).set from_.toNat at_) (List.replicate 8 (-1))) r → Ev (fun k => spec_l6Search.l0 k l from_ at_ (List.replicate i (-1)) (List.replicate i (-1)) (i : Int)) r := by
  induction d with
  | zero =>
    intro i r h0 hd hf h
    obtain rfl : i = 8 := by omega
    exact Ev.step (fun k => by rw [spec_l6Search.l0]) (Ev.ite_neg (by omega) (Ev.ite_pos hf.1 (Ev.ite_pos (by simp; omega) h)))
  | succ d ih =>
    intro i r h0 hd hf h
    have hw : wrap64 ((i : Int) + 1) = ((i + 1 : Nat) : Int) := by rw [w64 (by omega) (by omega)]; omega
    have := ih (i + 1) r (by omega) (by omega) hf h
    rw [List.replicate_succ', ← hw] at this
    exact Ev.step (fun k => by rw [spec_l6Search.l0]) (Ev.ite_pos (by omega) (Ev.ite_pos (by simp; omega) (Ev.ite_pos (by simp; omega) this)))
theorem rd_rep (n : Int) : rd (List.replicate 8 (-1)) n = -1 ∨ rd (List.replicate 8 (-1)) n = 0 := by
  unfold Go.Proofs.YtckndinhkkhonaaW.PrintWords.rd
  rw [List.getD_eq_getElem?_getD, List.getElem?_replicate]
  split <;> simp
theorem rd_rep8 (n : Int) (h0 : 0 ≤ n) (h1 : n < 8) : rd (List.replicate 8 (-1)) n = -1 := by
  obtain ⟨a, rfl⟩ := Int.eq_ofNat_of_zero_le h0
  rw [rd_eq _ a (by simp; omega), List.getElem_replicate]
theorem search_val (l : List S53) (hp : PlanOk l) (from_ at_ : Int) (hf : 0 ≤ from_ ∧ from_ < 8) (ha : 0 ≤ at_ ∧ at_ ≤ 1000) :
    ∃ W L : List Int, Found l from_ at_ W L ∧ W.length = 8 ∧ Ev (fun k => spec_l6Search.f k l from_ at_) (W, L) ∧ Ev (fun k => impl_reach.f k l from_ at_) (W, L) := by
  have hlen : (List.replicate 8 (-1) : List Int).length = 8 := by simp
  have rW : ∀ n : Int, 0 ≤ n → n < 8 → rd ((List.replicate 8 (-1)).set from_.toNat at_) n = if n = from_ then at_ else -1 := fun n h0 h1 => by
    rw [rd_set_if _ _ n at_ hf.1 (by rw [hlen]; exact hf.2) h0, rd_rep8 n h0 h1]
  have hun : unset ((List.replicate 8 (-1)).set from_.toNat at_) + 1 = 8 := by
    rw [unset_set hlen from_ at_ hf.1 hf.2 (by rw [rd_rep8 _ hf.1 hf.2]; decide) ha.1]; rfl
  have T : Tree l from_ ((List.replicate 8 (-1)).set from_.toNat at_) (List.replicate 8 (-1)) at_ (fun _ => 0) := by
    refine ⟨by rw [List.length_set]; exact hlen, hlen, ⟨ha.1, by omega⟩, fun n h0 h1 => ?_, ?_, fun j hj hi => ?_, fun n h0 h1 hn hn2 => ?_, fun n h0 h1 hn => by omega⟩
    · rw [rW n h0 h1]
      by_cases e : n = from_
      · rw [if_pos e]; omega
      · rw [if_neg e]; omega
    · rw [rW _ hf.1 hf.2, if_pos rfl]; exact ha.1
    · obtain ⟨⟨p0, p1⟩, _, _, hy⟩ := hp.at_ j hj
      obtain ⟨i0, i1, _⟩ := hi
      obtain ⟨_, _, z⟩ := arr_bd hy i0 i1
      rw [rW _ p0 (by omega)] at z i0
      by_cases e : (rd_T53 l (j : Int)).f0 = from_
      · rw [if_pos e] at z; exact z
      · rw [if_neg e] at i0; omega
    · rw [rW n h0 h1, if_neg hn] at hn2; omega
  obtain ⟨W', L', M', rk', T', fin, e, x, y⟩ := reach_go hp hf 8 _ _ _ _ (by omega) T
  rw [rW _ hf.1 hf.2, if_pos rfl] at e
  refine ⟨W', L', ⟨⟨M', rk', T'⟩, fin, e⟩, T'.lenW, ?_, ?_⟩
  · simp only [spec_l6Search.f]
    exact fill8 l from_ at_ 8 0 _ (by omega) (by omega) hf x
  · simp only [impl_reach.f]
    refine Ev.opt_bind (a := List.replicate 8 (-1)) (by simp [slices_Repeat_int_int.f]) (Ev.opt_bind (a := List.replicate 8 (-1)) (by simp [slices_Repeat_int_int.f]) ?_)
    exact Ev.ite_pos hf.1 (Ev.ite_pos (by simp; omega) y)
theorem latest_go (l : List S53) (hp : PlanOk l) (f to_ b : Int) (hf : 0 ≤ f ∧ f < 8) (ht : 0 ≤ to_ ∧ to_ < 8) (n : Nat) (hn : n ≤ 1000) :
    ∃ u : Int × Bool, Ev (fun k => spec_LatestFor.l0 k l f to_ b (n : Int)) u ∧ Ev (fun k => impl_LatestFor.l0 k l f to_ b (n : Int)) u := by
  have stop : ∀ m : Int, m < 0 → Ev (fun k => spec_LatestFor.l0 k l f to_ b m) (0, false) ∧ Ev (fun k => impl_LatestFor.l0 k l f to_ b m) (0, false) := fun m hm =>
    ⟨Ev.step (fun k => by rw [spec_LatestFor.l0]) (Ev.ite_neg (by omega) (Ev.now _)), Ev.step (fun k => by rw [impl_LatestFor.l0]) (Ev.ite_neg (by omega) (Ev.now _))⟩
  have one : ∀ (a : Int) (u : Int × Bool), 0 ≤ a → a ≤ 1000 → Ev (fun k => spec_LatestFor.l0 k l f to_ b (wrap64 (a - 1))) u → Ev (fun k => impl_LatestFor.l0 k l f to_ b (wrap64 (a - 1))) u →
      ∃ u : Int × Bool, Ev (fun k => spec_LatestFor.l0 k l f to_ b a) u ∧ Ev (fun k => impl_LatestFor.l0 k l f to_ b a) u := fun a u a0 a1 p q => by
    obtain ⟨W, L, _, hW, x, y⟩ := search_val l hp f a hf ⟨a0, a1⟩
    have hlt : to_ < (W.length : Int) := by omega
    have openS : ∀ {r}, _ → Ev (fun k => spec_LatestFor.l0 k l f to_ b a) r := fun {r} h => Ev.step (r := r) (fun k => by rw [spec_LatestFor.l0]) (Ev.ite_pos (by omega) (Ev.bind x (Ev.ite_pos ht.1 (Ev.ite_pos hlt h))))
    have openI : ∀ {r}, _ → Ev (fun k => impl_LatestFor.l0 k l f to_ b a) r := fun {r} h => Ev.step (r := r) (fun k => by rw [impl_LatestFor.l0]) (Ev.ite_pos (by omega) (Ev.bind y (Ev.ite_pos ht.1 (Ev.ite_pos hlt (Ev.opt_bind (within_val _ _ _) h)))))
    by_cases c : 0 ≤ rd W to_ ∧ rd W to_ ≤ b
    · exact ⟨(a, true), openS (Ev.ite_pos c.1 (Ev.ite_pos c.2 (Ev.now _))), openI (Ev.ite_pos (inB_iff.mpr c) (Ev.now _))⟩
    · exact ⟨u, openS (Ev.ite (fun c1 => Ev.ite_neg (fun c2 => c ⟨c1, c2⟩) p) fun _ => p), openI (Ev.ite_neg (fun h => c (inB_iff.mp h)) q)⟩
  induction n with
  | zero =>
    obtain ⟨p, q⟩ := stop (wrap64 (((0 : Nat) : Int) - 1)) (by rw [w64 (by omega) (by omega)]; omega)
    exact one _ _ (by omega) (by omega) p q
  | succ n ih =>
    obtain ⟨u, p, q⟩ := ih (by omega)
    have hw : wrap64 (((n + 1 : Nat) : Int) - 1) = (n : Int) := by rw [w64 (by omega) (by omega)]; omega
    exact one _ u (by omega) (by omega) (by rw [hw]; exact p) (by rw [hw]; exact q)
theorem latest_val (l : List S53) (hl : l.length ≤ 1048576) (f to_ b : Int) : ∃ u : Int × Bool, Ev (fun k => spec_LatestFor.f k l f to_ b) u ∧ Ev (fun k => impl_LatestFor.f k l f to_ b) u := by
  have hs := specPlan_val l hl
  have hi := implPlan_val l
  simp only [spec_LatestFor.f, impl_LatestFor.f, impl_isNode.f, l6Node_val, l1In_val, within_val, Option.bind_some]
  have noS : Ev (fun k => spec_LatestFor.j0 k l f to_ b true) (0, false) := Ev.step (fun k => by rw [spec_LatestFor.j0]) (Ev.ite_pos rfl (Ev.now _))
  have noI : Ev (fun k => impl_LatestFor.j0 k l f to_ b true) (0, false) := Ev.step (fun k => by rw [impl_LatestFor.j0]) (Ev.ite_pos rfl (Ev.now _))
  by_cases hp : planB l = true
  case neg => exact ⟨(0, false), Ev.bind hs (Ev.ite_neg hp noS), Ev.opt_bind hi (Ev.ite_neg hp noI)⟩
  by_cases hf : inB f 0 7 = true
  case neg => exact ⟨(0, false), Ev.bind hs (Ev.ite_pos hp (Ev.ite_neg hf noS)), Ev.opt_bind hi (Ev.ite_pos hp (Ev.ite_neg hf noI))⟩
  by_cases ht : inB to_ 0 7 = true
  case neg => exact ⟨(0, false), Ev.bind hs (Ev.ite_pos hp (Ev.ite_pos hf (Ev.ite_neg ht noS))), Ev.opt_bind hi (Ev.ite_pos hp (Ev.ite_pos hf (Ev.ite_neg ht noI)))⟩
  have hf' := inB_iff.mp hf
  have ht' := inB_iff.mp ht
  cases hb : inB b 0 2000 with
  | false => exact ⟨(0, false), Ev.bind hs (Ev.ite_pos hp (Ev.ite_pos hf (Ev.ite_pos ht noS))), Ev.opt_bind hi (Ev.ite_pos hp (Ev.ite_pos hf (Ev.ite_pos ht noI)))⟩
  | true =>
    obtain ⟨u, x, y⟩ := latest_go l (planB_ok hp) f to_ b ⟨hf'.1, by omega⟩ ⟨ht'.1, by omega⟩ 1000 (by omega)
    refine ⟨u, Ev.bind hs (Ev.ite_pos hp (Ev.ite_pos hf (Ev.ite_pos ht (Ev.step (fun k => by rw [spec_LatestFor.j0]) ?_)))), Ev.opt_bind hi (Ev.ite_pos hp (Ev.ite_pos hf (Ev.ite_pos ht (Ev.step (fun k => by rw [impl_LatestFor.j0]) ?_))))⟩
    · exact Ev.ite_neg (by decide) x
    · exact Ev.ite_neg (by decide) y
theorem FnExactLatestFor : Go.Proofs.Ytckndinhkkhonaa.GoalFnExactLatestFor.Goal := by
  intro l f to_ b h0 _ h1 _ _ _
  refine Ev.rounds ?_
  obtain ⟨r, hr, hr2⟩ := szContactS_val l h0
  simp only [laws_FnExactLatestFor.f]
  refine Ev.opt_bind hr (Ev.ite (fun _ => Ev.now _) fun hn => ?_)
  have hl := hr2 (by omega)
  have hl2 : (l.map contactOf).length ≤ 1048576 := by simpa using hl
  obtain ⟨u, x, y⟩ := latest_val (l.map contactOf) hl2 f to_ b
  have t := toContactS_val l hl
  refine Ev.bind t (Ev.bind x (Ev.bind t (Ev.bind y (Ev.ite_pos rfl ?_))))
  refine Ev.step (fun k => by rw [laws_FnExactLatestFor.j0]) ?_
  exact Ev.ite_neg (by simp) (Ev.bind t (Ev.bind (eqContactS_self _ hl2) (Ev.ite_pos rfl (Ev.now _))))

end Go.Proofs.Ytckndinhkkhonaa.Pure
