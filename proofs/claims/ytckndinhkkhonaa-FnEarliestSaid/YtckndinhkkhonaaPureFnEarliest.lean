import Derived.Test.YtckndinhkkhonaaQFnEarliestx10
import Derived.Test.YtckndinhkkhonaaPlain
import Derived.Test.YtckndinhkkhonaaGoalFnEarliest
set_option linter.unusedVariables false
set_option linter.unusedSimpArgs false
namespace Go.Proofs.Ytckndinhkkhonaa.Pure
open Go.RowKit Go.Proofs.Ytckndinhkkhonaa.QFnEarliest Go.Proofs.YtckndinhkkhonaaW.PrintWords Go.Proofs.YtckndinhkkhonaaW.PrintLast Go.Proofs.Ytckndinhkkhonaa.Plain Go.Proofs.Ytckndinhkkhonaa.GoalFnEarliest
theorem rdContact_eq (l : List S53) (i : Nat) (h : i < l.length) : rd_T53 l (i : Int) = l[i] := by
  simp [rd_T53, List.getD_eq_getElem?_getD, List.getElem?_eq_getElem h]
def planB (l : List S53) : Bool := decide ((l.length : Int) ≤ 20) && !l.any badC
theorem l6Node_val (n : Int) : spec_l6Node.f n = some (inB n 0 7) := by
  unfold spec_l6Node.f inB
  by_cases h : n ≥ 0
  · rw [if_pos h]; simp only [show (0 : Int) ≤ n from h, decide_true, Bool.true_and]; congr 1; exact decide_eq_decide.mpr (by omega)
  · rw [if_neg h]; simp only [show ¬ (0 : Int) ≤ n from h, decide_false, Bool.false_and]
theorem l1In_val (n a b : Int) : spec_l1In.f n a b = some (inB n a b) := by
  unfold spec_l1In.f inB
  by_cases h : n ≥ a
  · rw [if_pos h]; simp only [show a ≤ n from h, decide_true, Bool.true_and]
  · rw [if_neg h]; simp only [show ¬ a ≤ n from h, decide_false, Bool.false_and]
theorem l6When_val (n : Int) : spec_l6When.f n = some (inB n 0 1000) := by
  unfold spec_l6When.f
  rw [l1In_val]; rfl
theorem badC_iff (x : S53) : badC x = false ↔ inB x.f0 0 7 = true ∧ inB x.f1 0 7 = true ∧ x.f0 ≠ x.f1 ∧ inB x.f3 0 1000 = true ∧ ¬ x.f2 < 0 ∧ ¬ x.f2 ≥ x.f3 ∧ inB x.f4 0 100 = true := by
  simp only [badC, unlikeB, inB, Bool.or_eq_false_iff, Bool.not_eq_false', Bool.and_eq_true, decide_eq_true_eq, decide_eq_false_iff_not, ne_eq]
  omega
theorem goodPlan_go (l : List S53) (hl : l.length ≤ 1048576) (d : Nat) : ∀ i : Nat, i ≤ l.length → l.length - i = d → (l.take i).any badC = false → Ev (fun k => spec_GoodPlan.l0 k l l (l.length : Int) (i : Int)) (planB l) := by
  induction d with
  | zero =>
    intro i h0 hd hb
    refine Ev.step (fun k => by rw [spec_GoodPlan.l0]) ?_
    obtain rfl : i = l.length := by omega
    rw [List.take_length] at hb
    exact Ev.ite_neg (by omega) (Ev.now' (by rw [planB, hb]; simp))
  | succ d ih =>
    intro i h0 hd hb
    have hi : i < l.length := by omega
    have hw : wrap64 ((i : Int) + 1) = ((i + 1 : Nat) : Int) := by rw [w64 (by omega) (by omega)]; omega
    refine Ev.step (fun k => by rw [spec_GoodPlan.l0]) ?_
    refine Ev.ite_pos (by omega) (Ev.ite_pos (by omega) (Ev.ite_pos (by omega) ?_))
    simp only [rdContact_eq l i hi, l6Node_val, l6When_val, l1In_val, Option.bind_some, hw]
    have hm : l[i] ∈ l := List.getElem_mem hi
    have bad : badC l[i] = true → planB l = false := fun h => by
      rw [planB, List.any_eq_true.mpr ⟨_, hm, h⟩]; simp
    have ht : badC l[i] = false → (l.take (i + 1)).any badC = false := fun h => by
      rw [List.take_succ_eq_append_getElem hi, List.any_append, hb]; simp [h]
    have next := fun h => ih (i + 1) (by omega) (by omega) (ht h)
    have key := badC_iff l[i]
    generalize l[i] = x at bad next key
    cases hq : badC x with
    | true =>
      rw [bad hq]
      have hk : ¬ (inB x.f0 0 7 = true ∧ inB x.f1 0 7 = true ∧ x.f0 ≠ x.f1 ∧ inB x.f3 0 1000 = true ∧ ¬ x.f2 < 0 ∧ ¬ x.f2 ≥ x.f3 ∧ inB x.f4 0 100 = true) := fun h => by rw [key.mpr h] at hq; cases hq
      refine Ev.ite (fun a1 => Ev.ite (fun a2 => Ev.ite (fun a3 => Ev.now _) fun a3 => Ev.ite (fun a4 => Ev.ite (fun a5 => Ev.now _) fun a5 => Ev.ite (fun a6 => Ev.now _) fun a6 => Ev.ite (fun a7 => absurd ⟨a1, a2, a3, a4, a5, a6, a7⟩ hk) fun a7 => Ev.now _) fun a4 => Ev.now _) fun a2 => Ev.now _) fun a1 => Ev.now _
    | false =>
      obtain ⟨a1, a2, a3, a4, a5, a6, a7⟩ := key.mp hq
      exact Ev.ite_pos a1 (Ev.ite_pos a2 (Ev.ite_neg a3 (Ev.ite_pos a4 (Ev.ite_neg a5 (Ev.ite_neg a6 (Ev.ite_pos a7 (next hq)))))))
theorem specPlan_val (l : List S53) (hl : l.length ≤ 1048576) : Ev (fun k => spec_GoodPlan.f k l) (planB l) := by
  simp only [spec_GoodPlan.f]
  exact goodPlan_go l hl l.length 0 (by omega) (by omega) (by simp)
theorem implPlan_val (l : List S53) : impl_GoodPlan.f l = some (planB l) := rfl
structure PlanOk (l : List S53) : Prop where
  len : l.length ≤ 20
  at_ : ∀ i : Nat, i < l.length → (0 ≤ (rd_T53 l (i : Int)).f0 ∧ (rd_T53 l (i : Int)).f0 ≤ 7) ∧ (0 ≤ (rd_T53 l (i : Int)).f1 ∧ (rd_T53 l (i : Int)).f1 ≤ 7) ∧ (rd_T53 l (i : Int)).f0 ≠ (rd_T53 l (i : Int)).f1 ∧ (0 ≤ (rd_T53 l (i : Int)).f2 ∧ (rd_T53 l (i : Int)).f2 < (rd_T53 l (i : Int)).f3 ∧ (rd_T53 l (i : Int)).f3 ≤ 1000) ∧ (0 ≤ (rd_T53 l (i : Int)).f4 ∧ (rd_T53 l (i : Int)).f4 ≤ 100)
theorem inB_iff {a b c : Int} : inB a b c = true ↔ b ≤ a ∧ a ≤ c := by simp [inB]
theorem planB_ok {l : List S53} (h : planB l = true) : PlanOk l := by
  unfold planB at h
  rw [Bool.and_eq_true] at h
  obtain ⟨h0, h1⟩ := h
  have h0 := of_decide_eq_true h0
  refine ⟨by omega, fun i hi => ?_⟩
  rw [rdContact_eq l i hi]
  have hb : badC l[i] = false := by
    cases hq : badC l[i] with
    | false => rfl
    | true => rw [List.any_eq_true.mpr ⟨_, List.getElem_mem hi, hq⟩] at h1; exact absurd h1 (by decide)
  obtain ⟨a1, a2, a3, a4, a5, a6, a7⟩ := (badC_iff _).mp hb
  rw [inB_iff] at a1 a2 a4 a7
  exact ⟨a1, a2, a3, ⟨by omega, by omega, a4.2⟩, a7⟩
theorem within_val (a b c : Int) : impl_within.f a b c = some (inB a b c) := by
  unfold impl_within.f inB
  by_cases h : b ≤ a
  · rw [if_pos h]; simp only [h, decide_true, Bool.true_and]
  · rw [if_neg h]; simp only [h, decide_false, Bool.false_and]
theorem rd_set_if (W : List Int) (v u x : Int) (h0 : 0 ≤ v) (h1 : v < (W.length : Int)) (h2 : 0 ≤ u) : rd (W.set v.toNat x) u = if u = v then x else rd W u := by
  obtain ⟨a, rfl⟩ := Int.eq_ofNat_of_zero_le h0
  obtain ⟨b, rfl⟩ := Int.eq_ofNat_of_zero_le h2
  simp only [Int.toNat_natCast]
  by_cases e : (b : Int) = (a : Int)
  · rw [if_pos e]
    obtain rfl : b = a := by omega
    exact rd_set_same W b (by omega) x
  · rw [if_neg e]
    exact rd_set_ne W a b (by omega) x
def arr (W : List Int) (x : S53) : Int := (if rd W x.f0 < x.f2 then x.f2 else rd W x.f0) + x.f4
def Imp (W : List Int) (x : S53) : Prop := 0 ≤ rd W x.f0 ∧ rd W x.f0 < x.f3 ∧ (rd W x.f1 < 0 ∨ arr W x < rd W x.f1)
structure Scan (l : List S53) (W : List Int) (i : Nat) (b t : Int) : Prop where
  sign : b = -1 ∨ 0 ≤ b
  best : 0 ≤ b → b < (i : Int) ∧ Imp W (rd_T53 l b) ∧ t = arr W (rd_T53 l b)
  least : ∀ j : Nat, j < i → Imp W (rd_T53 l (j : Int)) → 0 ≤ b ∧ t ≤ arr W (rd_T53 l (j : Int))
theorem Scan.keep {l : List S53} {W : List Int} {i : Nat} {b t : Int} (h : Scan l W i b t) (hi : Imp W (rd_T53 l (i : Int)) → 0 ≤ b ∧ t ≤ arr W (rd_T53 l (i : Int))) : Scan l W (i + 1) b t :=
  ⟨h.sign, fun hb => by obtain ⟨a, c⟩ := h.best hb; exact ⟨by omega, c⟩, fun j hj => by
    rcases Nat.lt_or_ge j i with h1 | h1
    · exact h.least j h1
    · obtain rfl : j = i := by omega
      exact hi⟩
theorem Scan.take {l : List S53} {W : List Int} {i : Nat} {b t : Int} (h : Scan l W i b t) (hi : Imp W (rd_T53 l (i : Int))) (hb : b < 0 ∨ arr W (rd_T53 l (i : Int)) < t) : Scan l W (i + 1) (i : Int) (arr W (rd_T53 l (i : Int))) :=
  ⟨.inr (by omega), fun _ => ⟨by omega, hi, rfl⟩, fun j hj hj2 => by
    refine ⟨by omega, ?_⟩
    rcases Nat.lt_or_ge j i with h1 | h1
    · obtain ⟨p, q⟩ := h.least j h1 hj2
      rcases hb with hb | hb
      · omega
      · omega
    · obtain rfl : j = i := by omega
      exact Int.le_refl _⟩
theorem arr_bd {x : S53} {W : List Int} (h : (0 ≤ x.f2 ∧ x.f2 < x.f3 ∧ x.f3 ≤ 1000) ∧ (0 ≤ x.f4 ∧ x.f4 ≤ 100)) (h0 : 0 ≤ rd W x.f0) (h1 : rd W x.f0 < x.f3) : 0 ≤ arr W x ∧ arr W x ≤ 1100 ∧ rd W x.f0 ≤ arr W x := by
  unfold arr
  by_cases c : rd W x.f0 < x.f2
  · rw [if_pos c]; omega
  · rw [if_neg c]; omega
theorem over_val {x : S53} {W : List Int} (h : (0 ≤ x.f2 ∧ x.f2 < x.f3 ∧ x.f3 ≤ 1000) ∧ (0 ≤ x.f4 ∧ x.f4 ≤ 100)) (h0 : 0 ≤ rd W x.f0) (hm : rd W x.f0 ≤ 2000) :
    spec_l6Over.f x.f0 x.f1 x.f2 x.f3 x.f4 (rd W x.f0) = some (if rd W x.f0 < x.f3 then arr W x else -1) ∧ impl_Contact_by.f x.f0 x.f1 x.f2 x.f3 x.f4 (rd W x.f0) = some (arr W x, decide (rd W x.f0 < x.f3)) := by
  obtain ⟨⟨a0, a1, a2⟩, b0, b1⟩ := h
  have w1 : wrap64 (x.f2 + x.f4) = x.f2 + x.f4 := w64 (by omega) (by omega)
  have w2 : wrap64 (rd W x.f0 + x.f4) = rd W x.f0 + x.f4 := w64 (by omega) (by omega)
  unfold spec_l6Over.f impl_Contact_by.f mx arr
  by_cases c : rd W x.f0 < x.f3
  · rw [if_neg (show ¬ rd W x.f0 ≥ x.f3 by omega), if_pos c]
    by_cases c2 : rd W x.f0 < x.f2
    · refine ⟨?_, ?_⟩ <;> simp only [if_pos c2, w1, decide_eq_true a1, decide_eq_true c]
    · refine ⟨?_, ?_⟩ <;> simp only [if_neg c2, w2]
  · rw [if_pos (show rd W x.f0 ≥ x.f3 by omega), if_neg c, if_neg (show ¬ rd W x.f0 < x.f2 by omega), w2]
    exact ⟨rfl, rfl⟩
section
variable {l : List S53} {W L : List Int}
theorem scan_step (hp : PlanOk l) (hW : W.length = 8) (hb : ∀ n : Int, 0 ≤ n → n < 8 → rd W n ≤ 2000) (i : Nat) (hi : i < l.length) (b t : Int) (hs : Scan l W i b t) :
    ∃ b2 t2, Scan l W (i + 1) b2 t2 ∧ (∀ r, Ev (fun k => spec_l6Search.l2 k l W L b2 t2 l (l.length : Int) ((i + 1 : Nat) : Int)) r → Ev (fun k => spec_l6Search.l2 k l W L b t l (l.length : Int) (i : Int)) r) ∧
      (∀ r, Ev (fun k => impl_reach.l1 k l W L b2 t2 l (l.length : Int) ((i + 1 : Nat) : Int)) r → Ev (fun k => impl_reach.l1 k l W L b t l (l.length : Int) (i : Int)) r) := by
  have h20 := hp.len
  have hw : wrap64 ((i : Int) + 1) = ((i + 1 : Nat) : Int) := by rw [w64 (by omega) (by omega)]; omega
  obtain ⟨⟨a0, a1⟩, ⟨b0, b1⟩, _, hx⟩ := hp.at_ i hi
  have openS : ∀ {r}, _ → Ev (fun k => spec_l6Search.l2 k l W L b t l (l.length : Int) (i : Int)) r := fun {r} h => Ev.step (r := r) (fun k => by rw [spec_l6Search.l2]) (Ev.ite_pos (by omega) (Ev.ite_pos (by omega) (Ev.ite_pos (by omega) (Ev.ite_pos a0 (Ev.ite_pos (by omega) h)))))
  have openI : ∀ {r}, _ → Ev (fun k => impl_reach.l1 k l W L b t l (l.length : Int) (i : Int)) r := fun {r} h => Ev.step (r := r) (fun k => by rw [impl_reach.l1]) (Ev.ite_pos (by omega) (Ev.ite_pos (by omega) (Ev.ite_pos (by omega) (Ev.ite_pos a0 (Ev.ite_pos (by omega) h)))))
  by_cases c0 : rd W (rd_T53 l (i : Int)).f0 < 0
  · refine ⟨b, t, hs.keep (fun h => absurd h.1 (by omega)), fun r h => openS (Ev.ite_pos c0 ?_), fun r h => openI (Ev.ite_pos c0 ?_)⟩
    · rw [hw]; exact h
    · rw [hw]; exact h
  obtain ⟨e1, e2⟩ := over_val (W := W) hx (by omega) (hb _ a0 (by omega))
  by_cases c1 : rd W (rd_T53 l (i : Int)).f0 < (rd_T53 l (i : Int)).f3
  case neg =>
    rw [if_neg c1] at e1
    rw [decide_eq_false c1] at e2
    refine ⟨b, t, hs.keep (fun h => absurd h.2.1 c1), fun r h => openS (Ev.ite_neg c0 (Ev.opt_bind e1 (Ev.ite_pos (by omega) ?_))), fun r h => openI (Ev.ite_neg c0 (Ev.opt_bind e2 (Ev.ite_neg (by simp) ?_)))⟩
    · refine Ev.step (fun k => by rw [spec_l6Search.j3]) ?_
      rw [hw]
      exact Ev.ite_pos rfl h
    · rw [hw]; exact h
  rw [if_pos c1] at e1
  rw [decide_eq_true c1] at e2
  obtain ⟨v0, v1, _⟩ := arr_bd (W := W) hx (by omega) c1
  have goS : ∀ {r} (q : Bool), (rd W (rd_T53 l (i : Int)).f1 ≥ 0 → decide (rd W (rd_T53 l (i : Int)).f1 ≤ arr W (rd_T53 l (i : Int))) = q) → (¬ rd W (rd_T53 l (i : Int)).f1 ≥ 0 → false = q) → Ev (fun k => spec_l6Search.j3 k l W L b t (i : Int) (arr W (rd_T53 l (i : Int))) l (l.length : Int) (i : Int) q) r → Ev (fun k => spec_l6Search.l2 k l W L b t l (l.length : Int) (i : Int)) r := fun {r} q q1 q2 h =>
    openS (Ev.ite_neg c0 (Ev.opt_bind e1 (Ev.ite_neg (by omega) (Ev.ite_pos b0 (Ev.ite_pos (by omega) (Ev.ite (fun c => by rw [q1 c]; exact h) (fun c => by have := q2 c; subst this; exact h)))))))
  by_cases ci : Imp W (rd_T53 l (i : Int))
  case neg =>
    have cc : 0 ≤ rd W (rd_T53 l (i : Int)).f1 ∧ rd W (rd_T53 l (i : Int)).f1 ≤ arr W (rd_T53 l (i : Int)) := by
      refine ⟨?_, ?_⟩
      · rcases Int.lt_or_le (rd W (rd_T53 l (i : Int)).f1) 0 with h | h
        · exact absurd ⟨by omega, c1, .inl h⟩ ci
        · exact h
      · rcases Int.lt_or_le (arr W (rd_T53 l (i : Int))) (rd W (rd_T53 l (i : Int)).f1) with h | h
        · exact absurd ⟨by omega, c1, .inr h⟩ ci
        · exact h
    refine ⟨b, t, hs.keep (fun h => absurd h ci), fun r h => goS true (fun _ => decide_eq_true cc.2) (fun c => absurd cc.1 c) ?_, fun r h => openI (Ev.ite_neg c0 (Ev.opt_bind e2 (Ev.ite_pos rfl (Ev.ite_pos b0 (Ev.ite_pos (by omega) (Ev.ite_neg (by omega) (Ev.ite_neg ?_ ?_)))))))⟩
    · refine Ev.step (fun k => by rw [spec_l6Search.j3]) ?_
      rw [hw]
      exact Ev.ite_pos rfl h
    · have := cc.2; show ¬ arr W (rd_T53 l (i : Int)) < rd W (rd_T53 l (i : Int)).f1; omega
    · rw [hw]; exact h
  have n1 : rd W (rd_T53 l (i : Int)).f1 ≥ 0 → ¬ rd W (rd_T53 l (i : Int)).f1 ≤ arr W (rd_T53 l (i : Int)) := fun h => by rcases ci.2.2 with h2 | h2 <;> omega
  have goI : ∀ {r}, (Ev (fun k => if b < 0 then impl_reach.l1 k l W L (i : Int) (arr W (rd_T53 l (i : Int))) l (l.length : Int) (wrap64 ((i : Int) + 1)) else if arr W (rd_T53 l (i : Int)) < t then impl_reach.l1 k l W L (i : Int) (arr W (rd_T53 l (i : Int))) l (l.length : Int) (wrap64 ((i : Int) + 1)) else impl_reach.l1 k l W L b t l (l.length : Int) (wrap64 ((i : Int) + 1))) r) → Ev (fun k => impl_reach.l1 k l W L b t l (l.length : Int) (i : Int)) r := fun {r} h =>
    openI (Ev.ite_neg c0 (Ev.opt_bind e2 (Ev.ite_pos rfl (Ev.ite_pos b0 (Ev.ite_pos (by omega) (Ev.ite (fun _ => h) (fun c => Ev.ite_pos (by have := n1 (by omega); show arr W (rd_T53 l (i : Int)) < rd W (rd_T53 l (i : Int)).f1; omega) h)))))))
  by_cases cb : b < 0 ∨ arr W (rd_T53 l (i : Int)) < t
  · refine ⟨_, _, hs.take ci cb, fun r h => goS false (fun c => decide_eq_false (n1 c)) (fun _ => rfl) ?_, fun r h => goI ?_⟩
    · refine Ev.step (fun k => by rw [spec_l6Search.j3]) ?_
      rw [hw]
      exact Ev.ite_neg (by decide) (Ev.ite (fun _ => h) (fun c => Ev.ite_pos (by omega) h))
    · rw [hw]
      exact Ev.ite (fun _ => h) (fun c => Ev.ite_pos (by omega) h)
  · refine ⟨b, t, hs.keep (fun _ => by omega), fun r h => goS false (fun c => decide_eq_false (n1 c)) (fun _ => rfl) ?_, fun r h => goI ?_⟩
    · refine Ev.step (fun k => by rw [spec_l6Search.j3]) ?_
      rw [hw]
      exact Ev.ite_neg (by decide) (Ev.ite_neg (by omega) (Ev.ite_neg (by omega) h))
    · rw [hw]
      exact Ev.ite_neg (by omega) (Ev.ite_neg (by omega) h)
theorem scan_all (hp : PlanOk l) (hW : W.length = 8) (hb : ∀ n : Int, 0 ≤ n → n < 8 → rd W n ≤ 2000) (d : Nat) : ∀ (i : Nat) (b t : Int), i ≤ l.length → l.length - i = d → Scan l W i b t →
    ∃ b2 t2, Scan l W l.length b2 t2 ∧ (∀ r, Ev (fun k => spec_l6Search.l2 k l W L b2 t2 l (l.length : Int) (l.length : Int)) r → Ev (fun k => spec_l6Search.l2 k l W L b t l (l.length : Int) (i : Int)) r) ∧
      (∀ r, Ev (fun k => impl_reach.l1 k l W L b2 t2 l (l.length : Int) (l.length : Int)) r → Ev (fun k => impl_reach.l1 k l W L b t l (l.length : Int) (i : Int)) r) := by
  induction d with
  | zero =>
    intro i b t h0 hd hs
    obtain rfl : i = l.length := by omega
    exact ⟨b, t, hs, fun _ h => h, fun _ h => h⟩
  | succ d ih =>
    intro i b t h0 hd hs
    obtain ⟨b1, t1, s1, x1, y1⟩ := scan_step (L := L) hp hW hb i (by omega) b t hs
    obtain ⟨b2, t2, s2, x2, y2⟩ := ih (i + 1) b1 t1 (by omega) (by omega) s1
    exact ⟨b2, t2, s2, fun r h => x1 r (x2 r h), fun r h => y1 r (y2 r h)⟩
def unset (W : List Int) : Nat := W.countP (fun x => decide (x < 0))
structure Tree (l : List S53) (from_ : Int) (W L : List Int) (M : Int) (rk : Int → Nat) : Prop where
  lenW : W.length = 8
  lenL : L.length = 8
  top : 0 ≤ M ∧ M ≤ 1100
  low : ∀ n : Int, 0 ≤ n → n < 8 → -1 ≤ rd W n ∧ rd W n ≤ M
  root : 0 ≤ rd W from_
  late : ∀ j : Nat, j < l.length → Imp W (rd_T53 l (j : Int)) → M ≤ arr W (rd_T53 l (j : Int))
  up : ∀ n : Int, 0 ≤ n → n < 8 → n ≠ from_ → 0 ≤ rd W n → 0 ≤ rd L n ∧ rd L n < (l.length : Int) ∧ (rd_T53 l (rd L n)).f1 = n ∧ 0 ≤ rd W (rd_T53 l (rd L n)).f0 ∧ rk (rd_T53 l (rd L n)).f0 < rk n ∧ rd W (rd_T53 l (rd L n)).f0 < (rd_T53 l (rd L n)).f3 ∧ rd W n = arr W (rd_T53 l (rd L n))
  rank : ∀ n : Int, 0 ≤ n → n < 8 → 0 ≤ rd W n → rk n + unset W < 8
theorem unset_set (hW : W.length = 8) (v x : Int) (h0 : 0 ≤ v) (h1 : v < 8) (hv : rd W v < 0) (hx : 0 ≤ x) : unset (W.set v.toNat x) + 1 = unset W := by
  obtain ⟨a, rfl⟩ := Int.eq_ofNat_of_zero_le h0
  have ha : a < W.length := by omega
  rw [rd_eq W a ha] at hv
  unfold unset
  rw [Int.toNat_natCast, List.countP_set ha]
  have hpos : 0 < W.countP (fun x => decide (x < 0)) := List.countP_pos_iff.mpr ⟨W[a], List.getElem_mem ha, decide_eq_true hv⟩
  rw [if_pos (decide_eq_true hv), if_neg (by simp; omega)]
  omega
theorem Tree.step {from_ M : Int} {rk : Int → Nat} (hp : PlanOk l) (hf : 0 ≤ from_ ∧ from_ < 8) (T : Tree l from_ W L M rk) {b t : Int} (hb : 0 ≤ b) (hbl : b < (l.length : Int)) (hi : Imp W (rd_T53 l b)) (ht : t = arr W (rd_T53 l b))
    (least : ∀ j : Nat, j < l.length → Imp W (rd_T53 l (j : Int)) → t ≤ arr W (rd_T53 l (j : Int))) :
    (0 ≤ (rd_T53 l b).f1 ∧ (rd_T53 l b).f1 < 8) ∧ rd W (rd_T53 l b).f1 < 0 ∧ 0 ≤ t ∧ ∃ rk', Tree l from_ (W.set ((rd_T53 l b).f1).toNat t) (L.set ((rd_T53 l b).f1).toNat b) t rk' := by
  obtain ⟨m, rfl⟩ := Int.eq_ofNat_of_zero_le hb
  obtain ⟨⟨a0, a1⟩, ⟨b0, b1⟩, ne, hx⟩ := hp.at_ m (by omega)
  obtain ⟨v0, v1, v2⟩ := arr_bd (W := W) hx hi.1 hi.2.1
  have hM : M ≤ t := by rw [ht]; exact T.late m (by omega) hi
  have hv : rd W (rd_T53 l (m : Int)).f1 < 0 := by
    rcases hi.2.2 with h | h
    · exact h
    · have := (T.low (rd_T53 l (m : Int)).f1 b0 (by omega)).2; omega
  have ht0 : 0 ≤ t := by omega
  have hne : from_ ≠ (rd_T53 l (m : Int)).f1 := fun e => by have := T.root; rw [e] at this; omega
  have rW : ∀ n : Int, 0 ≤ n → rd (W.set ((rd_T53 l (m : Int)).f1).toNat t) n = if n = (rd_T53 l (m : Int)).f1 then t else rd W n := fun n hn => rd_set_if W _ n t b0 (by rw [T.lenW]; omega) hn
  have rL : ∀ n : Int, 0 ≤ n → rd (L.set ((rd_T53 l (m : Int)).f1).toNat (m : Int)) n = if n = (rd_T53 l (m : Int)).f1 then (m : Int) else rd L n := fun n hn => rd_set_if L _ n m b0 (by rw [T.lenL]; omega) hn
  refine ⟨⟨b0, by omega⟩, hv, ht0, fun n => if n = (rd_T53 l (m : Int)).f1 then 7 - unset (W.set ((rd_T53 l (m : Int)).f1).toNat t) else rk n, ?_⟩
  have hu := unset_set (W := W) T.lenW _ t b0 (by omega) hv ht0
  have hr0 := T.rank (rd_T53 l (m : Int)).f0 a0 (by omega) hi.1
  -- a contact of the new tree
  have arr_same : ∀ x : S53, 0 ≤ x.f0 → x.f0 ≠ (rd_T53 l (m : Int)).f1 → arr (W.set ((rd_T53 l (m : Int)).f1).toNat t) x = arr W x := fun x h0 h => by
    unfold arr
    rw [rW _ h0, if_neg h]
  refine ⟨by rw [List.length_set]; exact T.lenW, by rw [List.length_set]; exact T.lenL, ⟨ht0, by omega⟩, fun n h0 h1 => ?_, ?_, fun j hj hj2 => ?_, fun n h0 h1 hnf hn => ?_, fun n h0 h1 hn => ?_⟩
  · rw [rW n h0]
    by_cases e : n = (rd_T53 l (m : Int)).f1
    · rw [if_pos e]; omega
    · rw [if_neg e]; have := T.low n h0 h1; omega
  · rw [rW _ hf.1, if_neg hne]; exact T.root
  · obtain ⟨⟨p0, p1⟩, ⟨q0, q1⟩, _, hy⟩ := hp.at_ j hj
    by_cases e : (rd_T53 l (j : Int)).f0 = (rd_T53 l (m : Int)).f1
    · have h0 := hj2.1
      have h1 := hj2.2.1
      obtain ⟨_, _, z⟩ := arr_bd (W := W.set ((rd_T53 l (m : Int)).f1).toNat t) hy h0 h1
      rw [rW _ p0, if_pos e] at z
      exact z
    · rw [arr_same _ p0 e]
      refine least j hj ?_
      obtain ⟨i0, i1, i2⟩ := hj2
      rw [arr_same _ p0 e] at i2
      rw [rW _ p0, if_neg e] at i0 i1
      rw [rW _ q0] at i2
      refine ⟨i0, i1, ?_⟩
      by_cases e2 : (rd_T53 l (j : Int)).f1 = (rd_T53 l (m : Int)).f1
      · rw [e2]; exact .inl hv
      · rw [if_neg e2] at i2; exact i2
  · rw [rW n h0] at hn
    rw [rL n h0]
    by_cases e : n = (rd_T53 l (m : Int)).f1
    · rw [if_pos e]
      simp only [rW _ a0, rW n h0, if_neg ne, if_pos e, arr_same _ a0 ne]
      exact ⟨hb, hbl, e.symm, hi.1, by omega, hi.2.1, ht⟩
    · rw [if_neg e]
      rw [if_neg e] at hn
      obtain ⟨k0, k1, k2, k3, k4, k5, k6⟩ := T.up n h0 h1 hnf hn
      have hk := hp.at_ (rd L n).toNat (by omega)
      rw [Int.toNat_of_nonneg k0] at hk
      have hne2 : (rd_T53 l (rd L n)).f0 ≠ (rd_T53 l (m : Int)).f1 := fun e2 => by rw [e2] at k3; omega
      simp only [rW _ hk.1.1, if_neg hne2, rW n h0, if_neg e, arr_same _ hk.1.1 hne2]
      exact ⟨k0, k1, k2, k3, k4, k5, k6⟩
  · rw [rW n h0] at hn
    by_cases e : n = (rd_T53 l (m : Int)).f1
    · show (if n = (rd_T53 l (m : Int)).f1 then 7 - unset (W.set ((rd_T53 l (m : Int)).f1).toNat t) else rk n) + _ < 8
      rw [if_pos e]; omega
    · rw [if_neg e] at hn
      show (if n = (rd_T53 l (m : Int)).f1 then 7 - unset (W.set ((rd_T53 l (m : Int)).f1).toNat t) else rk n) + _ < 8
      rw [if_neg e]
      have := T.rank n h0 h1 hn; omega
theorem reach_go (hp : PlanOk l) {from_ : Int} (hf : 0 ≤ from_ ∧ from_ < 8) (u : Nat) : ∀ (W L : List Int) (M : Int) (rk : Int → Nat), unset W ≤ u → Tree l from_ W L M rk →
    ∃ (W' L' : List Int) (M' : Int) (rk' : Int → Nat), Tree l from_ W' L' M' rk' ∧ (∀ j : Nat, j < l.length → ¬ Imp W' (rd_T53 l (j : Int))) ∧ rd W' from_ = rd W from_ ∧
      Ev (fun k => spec_l6Search.l1 k l W L) (W', L') ∧ Ev (fun k => impl_reach.l0 k l W L) (W', L') := by
  induction u with
  | zero =>
    intro W L M rk hu T
    obtain ⟨b, t, hs, x, y⟩ := scan_all (L := L) hp T.lenW (fun n h0 h1 => by have := (T.low n h0 h1).2; have := T.top.2; omega) l.length 0 (-1) 0 (by omega) (by omega) ⟨.inl rfl, fun h => absurd h (by decide), fun j hj => by omega⟩
    by_cases hb : b < 0
    · refine ⟨W, L, M, rk, T, fun j hj hi => by have := (hs.least j hj hi).1; omega, rfl, Ev.step (fun k => by rw [spec_l6Search.l1]; rfl) (x _ ?_), Ev.step (fun k => by rw [impl_reach.l0]; rfl) (y _ ?_)⟩
      · exact Ev.step (fun k => by rw [spec_l6Search.l2]) (Ev.ite_neg (by omega) (Ev.ite_pos hb (Ev.now _)))
      · exact Ev.step (fun k => by rw [impl_reach.l1]) (Ev.ite_neg (by omega) (Ev.ite_pos hb (Ev.now _)))
    · obtain ⟨b1, bi, bt⟩ := hs.best (by omega)
      obtain ⟨⟨f0, f1⟩, hv, ht0, rk', T'⟩ := T.step hp hf (by omega) b1 bi bt (fun j hj hi => (hs.least j hj hi).2)
      have := unset_set T.lenW _ t f0 f1 hv ht0
      omega
  | succ u ih =>
    intro W L M rk hu T
    obtain ⟨b, t, hs, x, y⟩ := scan_all (L := L) hp T.lenW (fun n h0 h1 => by have := (T.low n h0 h1).2; have := T.top.2; omega) l.length 0 (-1) 0 (by omega) (by omega) ⟨.inl rfl, fun h => absurd h (by decide), fun j hj => by omega⟩
    by_cases hb : b < 0
    · refine ⟨W, L, M, rk, T, fun j hj hi => by have := (hs.least j hj hi).1; omega, rfl, Ev.step (fun k => by rw [spec_l6Search.l1]; rfl) (x _ ?_), Ev.step (fun k => by rw [impl_reach.l0]; rfl) (y _ ?_)⟩
      · exact Ev.step (fun k => by rw [spec_l6Search.l2]) (Ev.ite_neg (by omega) (Ev.ite_pos hb (Ev.now _)))
      · exact Ev.step (fun k => by rw [impl_reach.l1]) (Ev.ite_neg (by omega) (Ev.ite_pos hb (Ev.now _)))
    · obtain ⟨b1, bi, bt⟩ := hs.best (by omega)
      obtain ⟨⟨f0, f1⟩, hv, ht0, rk', T'⟩ := T.step hp hf (by omega) b1 bi bt (fun j hj hi => (hs.least j hj hi).2)
      have hu2 := unset_set T.lenW _ t f0 f1 hv ht0
      obtain ⟨W', L', M', rk2, T2, fin, e, p, q⟩ := ih _ _ _ _ (by omega) T'
      have hne : from_ ≠ (rd_T53 l b).f1 := fun e => by have := T.root; rw [e] at this; omega
      rw [rd_set_if W _ _ t f0 (by rw [T.lenW]; exact f1) hf.1, if_neg hne] at e
      refine ⟨W', L', M', rk2, T2, fin, e, Ev.step (fun k => by rw [spec_l6Search.l1]; rfl) (x _ ?_), Ev.step (fun k => by rw [impl_reach.l0]; rfl) (y _ ?_)⟩
      · exact Ev.step (fun k => by rw [spec_l6Search.l2]) (Ev.ite_neg (by omega) (Ev.ite_neg hb (Ev.ite_pos (by omega) (Ev.ite_pos b1 (Ev.ite_pos f0 (Ev.ite_pos (by rw [T.lenW]; exact f1) (Ev.ite_pos (by rw [T.lenL]; exact f1) p)))))))
      · exact Ev.step (fun k => by rw [impl_reach.l1]) (Ev.ite_neg (by omega) (Ev.ite_neg hb (Ev.ite_pos (by omega) (Ev.ite_pos b1 (Ev.ite_pos f0 (Ev.ite_pos (by rw [T.lenW]; exact f1) (Ev.ite_pos (by rw [T.lenL]; exact f1) q)))))))
end
structure Found (l : List S53) (from_ at_ : Int) (W L : List Int) : Prop where
  tree : ∃ M rk, Tree l from_ W L M rk
  still : ∀ j : Nat, j < l.length → ¬ Imp W (rd_T53 l (j : Int))
  root : rd W from_ = at_
theorem fill8 (l : List S53) (from_ at_ : Int) (d : Nat) : ∀ (i : Nat) (r : List Int × List Int), i ≤ 8 → 8 - i = d → (0 ≤ from_ ∧ from_ < 8) →
    Ev (fun k => spec_l6Search.l1 k l ((List.replicate 8 (-1)).set from_.toNat at_) (List.replicate 8 (-1))) r → Ev (fun k => spec_l6Search.l0 k l from_ at_ (List.replicate i (-1)) (List.replicate i (-1)) (i : Int)) r := by
  induction d with
  | zero =>
    intro i r h0 hd hf h
    obtain rfl : i = 8 := by omega
    exact Ev.step (fun k => by rw [spec_l6Search.l0]) (Ev.ite_neg (by omega) (Ev.ite_pos hf.1 (Ev.ite_pos (by simp; omega) h)))
  | succ d ih =>
    intro i r h0 hd hf h
    have hw : wrap64 ((i : Int) + 1) = ((i + 1 : Nat) : Int) := by rw [w64 (by omega) (by omega)]; omega
    have := ih (i + 1) r (by omega) (by omega) hf h
    rw [List.replicate_succ', ← hw] at this
    exact Ev.step (fun k => by rw [spec_l6Search.l0]) (Ev.ite_pos (by omega) (Ev.ite_pos (by simp; omega) (Ev.ite_pos (by simp; omega) this)))
theorem rd_rep8 (n : Int) (h0 : 0 ≤ n) (h1 : n < 8) : rd (List.replicate 8 (-1)) n = -1 := by
  obtain ⟨a, rfl⟩ := Int.eq_ofNat_of_zero_le h0
  rw [rd_eq _ a (by simp; omega), List.getElem_replicate]
theorem search_val (l : List S53) (hp : PlanOk l) (from_ at_ : Int) (hf : 0 ≤ from_ ∧ from_ < 8) (ha : 0 ≤ at_ ∧ at_ ≤ 1000) :
    ∃ W L : List Int, Found l from_ at_ W L ∧ W.length = 8 ∧ Ev (fun k => spec_l6Search.f k l from_ at_) (W, L) ∧ Ev (fun k => impl_reach.f k l from_ at_) (W, L) := by
  have hlen : (List.replicate 8 (-1) : List Int).length = 8 := by simp
  have rW : ∀ n : Int, 0 ≤ n → n < 8 → rd ((List.replicate 8 (-1)).set from_.toNat at_) n = if n = from_ then at_ else -1 := fun n h0 h1 => by
    rw [rd_set_if _ _ n at_ hf.1 (by rw [hlen]; exact hf.2) h0, rd_rep8 n h0 h1]
  have hun : unset ((List.replicate 8 (-1)).set from_.toNat at_) + 1 = 8 := by
    rw [unset_set hlen from_ at_ hf.1 hf.2 (by rw [rd_rep8 _ hf.1 hf.2]; decide) ha.1]; rfl
  have T : Tree l from_ ((List.replicate 8 (-1)).set from_.toNat at_) (List.replicate 8 (-1)) at_ (fun _ => 0) := by
    refine ⟨by rw [List.length_set]; exact hlen, hlen, ⟨ha.1, by omega⟩, fun n h0 h1 => ?_, ?_, fun j hj hi => ?_, fun n h0 h1 hn hn2 => ?_, fun n h0 h1 hn => by omega⟩
    · rw [rW n h0 h1]
      by_cases e : n = from_
      · rw [if_pos e]; omega
      · rw [if_neg e]; omega
    · rw [rW _ hf.1 hf.2, if_pos rfl]; exact ha.1
    · obtain ⟨⟨p0, p1⟩, _, _, hy⟩ := hp.at_ j hj
      obtain ⟨i0, i1, _⟩ := hi
      obtain ⟨_, _, z⟩ := arr_bd hy i0 i1
      rw [rW _ p0 (by omega)] at z i0
      by_cases e : (rd_T53 l (j : Int)).f0 = from_
      · rw [if_pos e] at z; exact z
      · rw [if_neg e] at i0; omega
    · rw [rW n h0 h1, if_neg hn] at hn2; omega
  obtain ⟨W', L', M', rk', T', fin, e, x, y⟩ := reach_go hp hf 8 _ _ _ _ (by omega) T
  rw [rW _ hf.1 hf.2, if_pos rfl] at e
  refine ⟨W', L', ⟨⟨M', rk', T'⟩, fin, e⟩, T'.lenW, ?_, ?_⟩
  · simp only [spec_l6Search.f]
    exact fill8 l from_ at_ 8 0 _ (by omega) (by omega) hf x
  · simp only [impl_reach.f]
    refine Ev.opt_bind (a := List.replicate 8 (-1)) (by simp [slices_Repeat_int_int.f]) (Ev.opt_bind (a := List.replicate 8 (-1)) (by simp [slices_Repeat_int_int.f]) ?_)
    exact Ev.ite_pos hf.1 (Ev.ite_pos (by simp; omega) y)
theorem reverse_go_i (l : List Int) (hl : l.length ≤ 4611686018427387904) (d : Nat) : ∀ (x : List Int) (i j : Int), x.length = l.length → 0 ≤ i → i + j = (l.length : Int) - 1 → i ≤ j + 1 → j + 1 - i ≤ d →
    (∀ m : Nat, m < l.length → rd x (m : Int) = if (m : Int) < i ∨ j < (m : Int) then rd l ((l.length - 1 - m : Nat) : Int) else rd l (m : Int)) → Ev (fun k => slices_Reverse_int_int.l0 k x i j) l.reverse := by
  induction d with
  | zero =>
    intro x i j hx h0 hs hij hd hm
    refine Ev.step (fun k => by rw [slices_Reverse_int_int.l0]) ?_
    simp only [if_neg (show ¬ i < j by omega)]
    refine Ev.now' (List.ext_getElem (by simp [hx]) fun m h1 h2 => ?_)
    have h := hm m (by omega)
    rw [rd_eq x m h1] at h
    rw [h, List.getElem_reverse, if_pos (by omega), rd_eq l _ (by omega)]
  | succ d ih =>
    intro x i j hx h0 hs hij hd hm
    by_cases hlt : i < j
    · refine Ev.step (fun k => by rw [slices_Reverse_int_int.l0]) ?_
      obtain ⟨a, rfl⟩ := Int.eq_ofNat_of_zero_le h0
      obtain ⟨b, rfl⟩ := Int.eq_ofNat_of_zero_le (show 0 ≤ j by omega)
      simp only [if_pos hlt, if_pos (show (0 : Int) ≤ (b : Int) by omega), if_pos (show (b : Int) < (x.length : Int) by omega), if_pos h0, if_pos (show (a : Int) < (x.length : Int) by omega), Int.toNat_natCast, w64 (show -9223372036854775808 ≤ (a : Int) + 1 by omega) (show (a : Int) + 1 ≤ 9223372036854775807 by omega), w64 (show -9223372036854775808 ≤ (b : Int) - 1 by omega) (show (b : Int) - 1 ≤ 9223372036854775807 by omega)]
      refine ih _ _ _ (by simpa using hx) (by omega) (by omega) (by omega) (by omega) fun m hml => ?_
      by_cases mb : m = b
      · subst mb
        rw [rd_set_same _ _ (by simp; omega), if_pos (by omega), hm a (by omega), if_neg (by omega)]
        congr 1; omega
      · rw [rd_set_ne _ _ _ (by omega)]
        by_cases ma : m = a
        · subst ma
          rw [rd_set_same _ _ (by omega), if_pos (by omega), hm b (by omega), if_neg (by omega)]
          congr 1; omega
        · rw [rd_set_ne _ _ _ (by omega), hm m hml]
          by_cases hc : (m : Int) < (a : Int) ∨ (b : Int) < (m : Int)
          · rw [if_pos hc, if_pos (by omega)]
          · rw [if_neg hc, if_neg (by omega)]
    · refine Ev.step (fun k => by rw [slices_Reverse_int_int.l0]) ?_
      simp only [if_neg hlt]
      refine Ev.now' (List.ext_getElem (by simp [hx]) fun m h1 h2 => ?_)
      have h := hm m (by omega)
      rw [rd_eq x m h1] at h
      rw [h, List.getElem_reverse]
      split
      · rw [rd_eq l _ (by omega)]
      · rw [rd_eq l _ (by omega)]
        congr 1; omega
theorem reverse_ints (l : List Int) (hl : l.length ≤ 4611686018427387904) : Ev (fun k => slices_Reverse_int_int.f k l) l.reverse := by
  simp only [slices_Reverse_int_int.f, w64 (show -9223372036854775808 ≤ (l.length : Int) - 1 by omega) (show (l.length : Int) - 1 ≤ 9223372036854775807 by omega)]
  refine reverse_go_i l hl l.length l 0 _ rfl (by omega) (by omega) (by omega) (by omega) fun m hm => ?_
  rw [if_neg (by omega)]
def AllAt (n : Nat) (o : List Int) : Prop := ∀ j : Nat, j < o.length → 0 ≤ rd o (j : Int) ∧ rd o (j : Int) < (n : Int)
theorem rowS_go (l : List S53) (o : List Int) (ho : o.length ≤ 1048576) (d : Nat) : ∀ i : Nat, 1 ≤ i → i ≤ o.length → o.length - i = d → (∀ j : Nat, j < i → 0 ≤ rd o (j : Int) ∧ rd o (j : Int) < (l.length : Int)) →
    ∃ b : Bool, Ev (fun k => spec_l6Row.l0 k l o o (o.length : Int) (i : Int)) b ∧ (b = true → o.length ≤ 20 ∧ AllAt l.length o) ∧ (AllAt l.length o → o.length ≤ 20 → Ev (fun k => impl_isRow.l0 k l o (i : Int)) b) := by
  induction d with
  | zero =>
    intro i h1 h0 hd hp
    obtain rfl : i = o.length := by omega
    refine ⟨decide ((o.length : Int) ≤ 20), ?_, fun h => ⟨by have := of_decide_eq_true h; omega, hp⟩, fun _ h => ?_⟩
    · exact Ev.step (fun k => by rw [spec_l6Row.l0]) (Ev.ite_neg (by omega) (Ev.now _))
    · rw [decide_eq_true (show (o.length : Int) ≤ 20 by omega)]
      exact Ev.step (fun k => by rw [impl_isRow.l0]) (Ev.ite_neg (by omega) (Ev.now _))
  | succ d ih =>
    intro i h1 h0 hd hp
    have hi : i < o.length := by omega
    have hw : wrap64 ((i : Int) + 1) = ((i + 1 : Nat) : Int) := by rw [w64 (by omega) (by omega)]; omega
    have hw2 : wrap64 ((i : Int) - 1) = ((i - 1 : Nat) : Int) := by rw [w64 (by omega) (by omega)]; omega
    obtain ⟨p0, p1⟩ := hp (i - 1) (by omega)
    have open_ : ∀ {r}, _ → Ev (fun k => spec_l6Row.l0 k l o o (o.length : Int) (i : Int)) r := fun {r} h => Ev.step (r := r) (fun k => by rw [spec_l6Row.l0]) (Ev.ite_pos (by omega) (Ev.ite_pos (by omega) (Ev.ite_pos (by omega) h)))
    by_cases c0 : rd o (i : Int) < 0
    · exact ⟨false, open_ (Ev.ite_pos c0 (Ev.now _)), fun h => absurd h (by decide), fun h => by have := (h i hi).1; omega⟩
    by_cases c1 : rd o (i : Int) ≥ (l.length : Int)
    · exact ⟨false, open_ (Ev.ite_neg c0 (Ev.ite_pos c1 (Ev.now _))), fun h => absurd h (by decide), fun h => by have := (h i hi).2; omega⟩
    have q0 : 0 ≤ rd o (i : Int) := by omega
    have q1 : rd o (i : Int) < (l.length : Int) := by omega
    have open2 : ∀ {r}, _ → Ev (fun k => spec_l6Row.l0 k l o o (o.length : Int) (i : Int)) r := fun {r} h => open_ (r := r) (Ev.ite_neg c0 (Ev.ite_neg c1 (Ev.ite_pos (by omega) (Ev.ite_pos (by rw [hw2]; omega) (Ev.ite_pos (by rw [hw2]; omega) (Ev.ite_pos (by rw [hw2]; exact p0) (Ev.ite_pos (by rw [hw2]; exact p1) (Ev.ite_pos q0 (Ev.ite_pos q1 h)))))))))
    have openI : ∀ {r}, _ → Ev (fun k => impl_isRow.l0 k l o (i : Int)) r := fun {r} h => Ev.step (r := r) (fun k => by rw [impl_isRow.l0]) (Ev.ite_pos (by omega) (Ev.ite_pos (by omega) (Ev.ite_pos q0 (Ev.ite_pos q1 (Ev.ite_pos (by rw [hw2]; omega) (Ev.ite_pos (by rw [hw2]; omega) (Ev.ite_pos (by rw [hw2]; exact p0) (Ev.ite_pos (by rw [hw2]; exact p1) h))))))))
    by_cases c2 : (rd_T53 l (rd o (wrap64 ((i : Int) - 1)))).f1 = (rd_T53 l (rd o (i : Int))).f0
    · obtain ⟨b, x, y, z⟩ := ih (i + 1) (by omega) (by omega) (by omega) (fun j hj => by
        rcases Nat.lt_or_ge j i with h | h
        · exact hp j h
        · obtain rfl : j = i := by omega
          exact ⟨q0, q1⟩)
      rw [← hw] at x z
      exact ⟨b, open2 (Ev.ite_pos c2 x), y, fun h h' => openI (Ev.ite_pos c2.symm (z h h'))⟩
    · exact ⟨false, open2 (Ev.ite_neg c2 (Ev.now _)), fun h => absurd h (by decide), fun h h' => openI (Ev.ite_neg (fun e => c2 e.symm) (Ev.now _))⟩
theorem row_val (l : List S53) (o : List Int) (ho : o.length ≤ 1048576) :
    ∃ b : Bool, Ev (fun k => spec_l6Row.f k l o) b ∧ (b = true → o.length ≤ 20 ∧ AllAt l.length o) ∧ (AllAt l.length o → o.length ≤ 20 → Ev (fun k => impl_isRow.f k l o) b) := by
  simp only [spec_l6Row.f, impl_isRow.f]
  by_cases hz : o.length = 0
  · refine ⟨true, ?_, fun _ => ⟨by omega, fun j hj => by omega⟩, fun _ _ => ?_⟩
    · exact Ev.step (fun k => by rw [spec_l6Row.l0]) (Ev.ite_neg (by omega) (Ev.now' (by simp [hz])))
    · exact Ev.step (fun k => by rw [impl_isRow.l0]) (Ev.ite_neg (by omega) (Ev.now _))
  have open_ : ∀ {r}, _ → Ev (fun k => spec_l6Row.l0 k l o o (o.length : Int) 0) r := fun {r} h => Ev.step (r := r) (fun k => by rw [spec_l6Row.l0]) (Ev.ite_pos (by omega) (Ev.ite_pos (by omega) (Ev.ite_pos (by omega) h)))
  have h00 := fun h : AllAt l.length o => h 0 (by omega)
  by_cases c0 : rd o 0 < 0
  · exact ⟨false, open_ (Ev.ite_pos c0 (Ev.now _)), fun h => absurd h (by decide), fun h => by have := (h00 h).1; simp only [Int.ofNat_zero, Int.natCast_zero] at this; omega⟩
  by_cases c1 : rd o 0 ≥ (l.length : Int)
  · exact ⟨false, open_ (Ev.ite_neg c0 (Ev.ite_pos c1 (Ev.now _))), fun h => absurd h (by decide), fun h => by have := (h00 h).2; simp only [Int.ofNat_zero, Int.natCast_zero] at this; omega⟩
  obtain ⟨b, x, y, z⟩ := rowS_go l o ho (o.length - 1) 1 (by omega) (by omega) (by omega) (fun j hj => by
    obtain rfl : j = 0 := by omega
    exact ⟨show 0 ≤ rd o 0 by omega, show rd o 0 < (l.length : Int) by omega⟩)
  refine ⟨b, open_ (Ev.ite_neg c0 (Ev.ite_neg c1 (Ev.ite_neg (by omega) ?_))), y, z⟩
  rw [show wrap64 (0 + 1) = ((1 : Nat) : Int) from by rw [w64 (by omega) (by omega)]; rfl]
  exact x
theorem areOf_val (o : List Int) (n : Nat) (hn : n ≤ 1048576) : ∃ b : Bool, impl_areOf.f o (n : Int) 20 = some b ∧ (b = true ↔ o.length ≤ 20 ∧ AllAt n o) := by
  refine ⟨_, rfl, ?_⟩
  have hw : wrap64 ((n : Int) - 1) = (n : Int) - 1 := w64 (by omega) (by omega)
  have hb : ∀ x : Int, badN (n : Int) x = false ↔ 0 ≤ x ∧ x < (n : Int) := fun x => by
    unfold badN inA
    rw [hw, Bool.not_eq_false', Bool.and_eq_true, decide_eq_true_eq, decide_eq_true_eq]
    omega
  rw [Bool.and_eq_true, decide_eq_true_eq, Bool.not_eq_true', List.any_eq_false]
  constructor
  · rintro ⟨h, h2⟩
    refine ⟨by omega, fun j hj => ?_⟩
    rw [rd_eq o j hj]
    have := h2 o[j] (List.getElem_mem hj)
    exact (hb _).mp (by simpa using this)
  · rintro ⟨h, h2⟩
    refine ⟨by omega, fun x hx => ?_⟩
    obtain ⟨j, hj, rfl⟩ := List.mem_iff_getElem.mp hx
    have := h2 j hj
    rw [rd_eq o j hj] at this
    rw [(hb _).mpr this]; decide
theorem by_both (x : S53) (h : (0 ≤ x.f2 ∧ x.f2 < x.f3 ∧ x.f3 ≤ 1000) ∧ (0 ≤ x.f4 ∧ x.f4 ≤ 100)) (a : Int) (h0 : 0 ≤ a) (h1 : a ≤ 1100) :
    (a < x.f3 ∧ ∃ v, 0 ≤ v ∧ v ≤ 1100 ∧ spec_l6Over.f x.f0 x.f1 x.f2 x.f3 x.f4 a = some v ∧ impl_Contact_by.f x.f0 x.f1 x.f2 x.f3 x.f4 a = some (v, true)) ∨
    (¬ a < x.f3 ∧ spec_l6Over.f x.f0 x.f1 x.f2 x.f3 x.f4 a = some (-1) ∧ ∃ v, impl_Contact_by.f x.f0 x.f1 x.f2 x.f3 x.f4 a = some (v, false)) := by
  obtain ⟨⟨a0, a1, a2⟩, b0, b1⟩ := h
  have w1 : wrap64 (x.f2 + x.f4) = x.f2 + x.f4 := w64 (by omega) (by omega)
  have w2 : wrap64 (a + x.f4) = a + x.f4 := w64 (by omega) (by omega)
  unfold spec_l6Over.f impl_Contact_by.f mx
  by_cases c : a < x.f3
  · refine .inl ⟨c, ?_⟩
    rw [if_neg (show ¬ a ≥ x.f3 by omega)]
    by_cases c2 : a < x.f2
    · rw [if_pos c2, if_pos c2, w1, decide_eq_true a1]
      exact ⟨_, by omega, by omega, rfl, rfl⟩
    · rw [if_neg c2, if_neg c2, w2, decide_eq_true c]
      exact ⟨_, by omega, by omega, rfl, rfl⟩
  · refine .inr ⟨c, ?_⟩
    rw [if_pos (show a ≥ x.f3 by omega), if_neg (show ¬ a < x.f2 by omega), decide_eq_false c]
    exact ⟨rfl, _, rfl⟩
theorem arrive_go (l : List S53) (hp : PlanOk l) (o : List Int) (ho : o.length ≤ 20) (all : AllAt l.length o) (d : Nat) : ∀ (i : Nat) (a : Int), i ≤ o.length → o.length - i = d → 0 ≤ a → a ≤ 1100 →
    ∃ u : Int × Bool, Ev (fun k => spec_ArriveBy.l0 k l a o (o.length : Int) (i : Int)) u ∧ Ev (fun k => impl_ArriveBy.l0 k l a o (o.length : Int) (i : Int)) u := by
  induction d with
  | zero =>
    intro i a h0 hd a0 a1
    refine ⟨(a, true), Ev.step (fun k => by rw [spec_ArriveBy.l0]) (Ev.ite_neg (by omega) (Ev.now _)), Ev.step (fun k => by rw [impl_ArriveBy.l0]) (Ev.ite_neg (by omega) (Ev.now _))⟩
  | succ d ih =>
    intro i a h0 hd a0 a1
    have hi : i < o.length := by omega
    have hw : wrap64 ((i : Int) + 1) = ((i + 1 : Nat) : Int) := by rw [w64 (by omega) (by omega)]; omega
    obtain ⟨q0, q1⟩ := all i hi
    have hx := hp.at_ (rd o (i : Int)).toNat (by omega)
    rw [Int.toNat_of_nonneg q0] at hx
    have openS : ∀ {r}, _ → Ev (fun k => spec_ArriveBy.l0 k l a o (o.length : Int) (i : Int)) r := fun {r} h => Ev.step (r := r) (fun k => by rw [spec_ArriveBy.l0]) (Ev.ite_pos (by omega) (Ev.ite_pos (by omega) (Ev.ite_pos (by omega) (Ev.ite_pos q0 (Ev.ite_pos q1 h)))))
    have openI : ∀ {r}, _ → Ev (fun k => impl_ArriveBy.l0 k l a o (o.length : Int) (i : Int)) r := fun {r} h => Ev.step (r := r) (fun k => by rw [impl_ArriveBy.l0]) (Ev.ite_pos (by omega) (Ev.ite_pos (by omega) (Ev.ite_pos (by omega) (Ev.ite_pos q0 (Ev.ite_pos q1 h)))))
    rcases by_both _ hx.2.2.2 a a0 a1 with ⟨_, v, v0, v1, e1, e2⟩ | ⟨_, e1, v, e2⟩
    · obtain ⟨u, x, y⟩ := ih (i + 1) v (by omega) (by omega) v0 v1
      rw [← hw] at x y
      exact ⟨u, openS (Ev.opt_bind e1 (Ev.ite_neg (by omega) x)), openI (Ev.opt_bind e2 (Ev.ite_pos rfl y))⟩
    · exact ⟨(0, false), openS (Ev.opt_bind e1 (Ev.ite_pos (by omega) (Ev.now _))), openI (Ev.opt_bind e2 (Ev.ite_neg (by simp) (Ev.now _)))⟩
theorem arriveBy_val (l : List S53) (hl : l.length ≤ 1048576) (f a : Int) (o : List Int) (ho : o.length ≤ 1048576) : ∃ u : Int × Bool, Ev (fun k => spec_ArriveBy.f k l f a o) u ∧ Ev (fun k => impl_ArriveBy.f k l f a o) u := by
  have hs := specPlan_val l hl
  have hi := implPlan_val l
  simp only [spec_ArriveBy.f, impl_ArriveBy.f, impl_isWhen.f, impl_isNode.f, l6When_val, l6Node_val, within_val, Option.bind_some]
  have noS : Ev (fun k => spec_ArriveBy.j0 k l a o true) (0, false) := Ev.step (fun k => by rw [spec_ArriveBy.j0]) (Ev.ite_pos rfl (Ev.now _))
  have noI : Ev (fun k => impl_ArriveBy.j0 k l a o true) (0, false) := Ev.step (fun k => by rw [impl_ArriveBy.j0]) (Ev.ite_pos rfl (Ev.now _))
  by_cases hp : planB l = true
  case neg => exact ⟨(0, false), Ev.bind hs (Ev.ite_neg hp noS), Ev.opt_bind hi (Ev.ite_neg hp noI)⟩
  by_cases hf : inB f 0 7 = true
  case neg => exact ⟨(0, false), Ev.bind hs (Ev.ite_pos hp (Ev.ite_neg hf noS)), Ev.opt_bind hi (Ev.ite_pos hp (Ev.ite_neg hf noI))⟩
  by_cases ha : inB a 0 1000 = true
  case neg => exact ⟨(0, false), Ev.bind hs (Ev.ite_pos hp (Ev.ite_pos hf (Ev.ite_neg ha noS))), Ev.opt_bind hi (Ev.ite_pos hp (Ev.ite_pos hf (Ev.ite_neg ha noI)))⟩
  obtain ⟨q, hq, hq2⟩ := areOf_val o l.length (by omega)
  obtain ⟨b, x, y, z⟩ := row_val l o ho
  cases b with
  | false =>
    refine ⟨(0, false), Ev.bind hs (Ev.ite_pos hp (Ev.ite_pos hf (Ev.ite_pos ha (Ev.bind x (Ev.ite_neg (by decide) noS))))), Ev.opt_bind hi (Ev.ite_pos hp (Ev.ite_pos hf (Ev.ite_pos ha (Ev.opt_bind hq ?_))))⟩
    cases q with
    | false => exact Ev.ite_neg (by decide) noI
    | true =>
      obtain ⟨h20, all⟩ := hq2.mp rfl
      exact Ev.ite_pos rfl (Ev.bind (z all h20) (Ev.ite_neg (by decide) noI))
  | true =>
    obtain ⟨h20, all⟩ := y rfl
    obtain rfl : q = true := hq2.mpr ⟨h20, all⟩
    have ha' := inB_iff.mp ha
    obtain ⟨u, p, r⟩ := arrive_go l (planB_ok hp) o h20 all o.length 0 a (by omega) (by omega) (by omega) (by omega)
    have pS : Ev (fun k => spec_ArriveBy.j0 k l a o false) u := by
      refine Ev.step (fun k => by rw [spec_ArriveBy.j0]) ?_
      exact Ev.ite_neg (by decide) p
    have pI : Ev (fun k => impl_ArriveBy.j0 k l a o false) u := by
      refine Ev.step (fun k => by rw [impl_ArriveBy.j0]) ?_
      exact Ev.ite_neg (by decide) r
    by_cases hz : (o.length : Int) > 0
    · obtain ⟨q0, q1⟩ := all 0 (by omega)
      by_cases hne : (rd_T53 l (rd o 0)).f0 = f
      · have e : ((rd_T53 l (rd o 0)).f0 != f) = false := by simp [hne]
        refine ⟨u, Ev.bind hs (Ev.ite_pos hp (Ev.ite_pos hf (Ev.ite_pos ha (Ev.bind x (Ev.ite_pos rfl (Ev.ite_pos hz (Ev.ite_pos hz (Ev.ite_pos q0 (Ev.ite_pos q1 ?_))))))))), Ev.opt_bind hi (Ev.ite_pos hp (Ev.ite_pos hf (Ev.ite_pos ha (Ev.opt_bind hq (Ev.ite_pos rfl (Ev.bind (z all h20) (Ev.ite_pos rfl (Ev.ite_pos hz (Ev.ite_pos hz (Ev.ite_pos q0 (Ev.ite_pos q1 ?_)))))))))))⟩
        · rw [e]; exact pS
        · rw [e]; exact pI
      · have e : ((rd_T53 l (rd o 0)).f0 != f) = true := by simp [hne]
        refine ⟨(0, false), Ev.bind hs (Ev.ite_pos hp (Ev.ite_pos hf (Ev.ite_pos ha (Ev.bind x (Ev.ite_pos rfl (Ev.ite_pos hz (Ev.ite_pos hz (Ev.ite_pos q0 (Ev.ite_pos q1 ?_))))))))), Ev.opt_bind hi (Ev.ite_pos hp (Ev.ite_pos hf (Ev.ite_pos ha (Ev.opt_bind hq (Ev.ite_pos rfl (Ev.bind (z all h20) (Ev.ite_pos rfl (Ev.ite_pos hz (Ev.ite_pos hz (Ev.ite_pos q0 (Ev.ite_pos q1 ?_)))))))))))⟩
        · rw [e]; exact noS
        · rw [e]; exact noI
    · exact ⟨u, Ev.bind hs (Ev.ite_pos hp (Ev.ite_pos hf (Ev.ite_pos ha (Ev.bind x (Ev.ite_pos rfl (Ev.ite_neg hz pS)))))), Ev.opt_bind hi (Ev.ite_pos hp (Ev.ite_pos hf (Ev.ite_pos ha (Ev.opt_bind hq (Ev.ite_pos rfl (Ev.bind (z all h20) (Ev.ite_pos rfl (Ev.ite_neg hz pI))))))))⟩
def Way (l : List S53) (W : List Int) : Int → List Int → Int → Prop
  | c, [], n => c = n
  | c, k :: o, n => 0 ≤ k ∧ k < (l.length : Int) ∧ (rd_T53 l k).f0 = c ∧ 0 ≤ rd W c ∧ rd W c < (rd_T53 l k).f3 ∧ rd W (rd_T53 l k).f1 = arr W (rd_T53 l k) ∧ Way l W (rd_T53 l k).f1 o n
theorem routeW_go (l : List S53) (hp : PlanOk l) (f to_ : Int) (hf : 0 ≤ f ∧ f < 8) (ht : 0 ≤ to_ ∧ to_ < 8) {W L : List Int} {M : Int} {rk : Int → Nat} (T : Tree l f W L M rk) (d : Nat) :
    ∀ (n : Int) (acc : List Int), 0 ≤ n → n < 8 → 0 ≤ rd W n → rk n ≤ d → d ≤ 8 → acc.length + d ≤ 20 → Way l W n acc to_ →
    ∃ out : List Int, out.length ≤ 20 ∧ Way l W f out to_ ∧ Ev (fun k => impl_RouteTo.l0 k l f to_ W L acc.reverse n) (out, rd W to_, true) := by
  have hW := T.lenW
  have hL := T.lenL
  have fin : ∀ acc : List Int, acc.length ≤ 20 → Ev (fun k => impl_RouteTo.l0 k l f to_ W L acc.reverse f) (acc, rd W to_, true) := fun acc ha => by
    have hrev := reverse_ints acc.reverse (by simp; omega)
    rw [List.reverse_reverse] at hrev
    refine Ev.step (fun k => by rw [impl_RouteTo.l0]) ?_
    exact Ev.ite_pos rfl (Ev.bind hrev (Ev.ite_pos ht.1 (Ev.ite_pos (by omega) (Ev.now _))))
  induction d with
  | zero =>
    intro n acc n0 n1 hn hr hd ha hy
    by_cases e : n = f
    · subst e
      exact ⟨acc, by omega, hy, fin acc (by omega)⟩
    · have := (T.up n n0 n1 e hn).2.2.2.2.1
      omega
  | succ d ih =>
    intro n acc n0 n1 hn hr hd ha hy
    by_cases e : n = f
    · subst e
      exact ⟨acc, by omega, hy, fin acc (by omega)⟩
    · obtain ⟨k0, k1, k2, k3, k4, k5, k6⟩ := T.up n n0 n1 e hn
      have hk := hp.at_ (rd L n).toNat (by omega)
      rw [Int.toNat_of_nonneg k0] at hk
      obtain ⟨out, ho, hy2, q⟩ := ih (rd_T53 l (rd L n)).f0 (rd L n :: acc) hk.1.1 (by omega) k3 (by omega) (by omega) (by simp; omega) ⟨k0, k1, rfl, k3, k5, by rw [k2]; exact k6, by rw [k2]; exact hy⟩
      rw [List.reverse_cons] at q
      refine ⟨out, ho, hy2, Ev.step (fun k => by rw [impl_RouteTo.l0]) ?_⟩
      exact Ev.ite_neg e (Ev.ite_pos n0 (Ev.ite_pos (by omega) (Ev.ite_pos (by rw [List.length_reverse]; omega) (Ev.ite_pos k0 (Ev.ite_pos k1 q)))))
theorem routeW (l : List S53) (f a to_ : Int) (hp : planB l = true) (hf : inB f 0 7 = true) (ha : inB a 0 1000 = true) (ht : 0 ≤ to_ ∧ to_ < 8) {W L : List Int} (F : Found l f a W L) (y : Ev (fun k => impl_reach.f k l f a) (W, L)) :
    ∃ (o : List Int) (t : Int) (b : Bool), Ev (fun k => impl_RouteTo.f k l f a to_) (o, t, b) ∧ b = decide (rd W to_ ≥ 0) ∧ (b = true → o.length ≤ 20 ∧ t = rd W to_ ∧ Way l W f o to_) := by
  have hi := implPlan_val l
  have hf' := inB_iff.mp hf
  obtain ⟨M, rk, T⟩ := F.tree
  have hW := T.lenW
  have hb : inB to_ 0 7 = true := inB_iff.mpr ⟨ht.1, by omega⟩
  simp only [impl_RouteTo.f, impl_isNode.f, impl_isWhen.f, within_val, Option.bind_some]
  rw [hb]
  have key : ∃ (o : List Int) (t : Int) (b : Bool), Ev (fun k => impl_RouteTo.j0 k l f a to_ (!true)) (o, t, b) ∧ b = decide (rd W to_ ≥ 0) ∧ (b = true → o.length ≤ 20 ∧ t = rd W to_ ∧ Way l W f o to_) := by
    by_cases hn : rd W to_ < 0
    · refine ⟨[], 0, false, Ev.step (fun k => by rw [impl_RouteTo.j0]) ?_, (decide_eq_false (by omega)).symm, fun h => absurd h (by decide)⟩
      exact Ev.ite_neg (by decide) (Ev.bind y (Ev.ite_pos ht.1 (Ev.ite_pos (show to_ < (W.length : Int) by omega) (Ev.ite_pos hn (Ev.now _)))))
    · have hr := T.rank to_ ht.1 (by omega) (by omega)
      obtain ⟨out, ho, hy, q⟩ := routeW_go l (planB_ok hp) f to_ ⟨hf'.1, by omega⟩ ht T 8 to_ [] ht.1 (by omega) (by omega) (by omega) (by omega) (by simp) rfl
      refine ⟨out, rd W to_, true, Ev.step (fun k => by rw [impl_RouteTo.j0]) ?_, (decide_eq_true (by omega)).symm, fun _ => ⟨ho, rfl, hy⟩⟩
      exact Ev.ite_neg (by decide) (Ev.bind y (Ev.ite_pos ht.1 (Ev.ite_pos (show to_ < (W.length : Int) by omega) (Ev.ite_neg hn q))))
  obtain ⟨o, t, b, p, q⟩ := key
  exact ⟨o, t, b, Ev.opt_bind hi (Ev.ite_pos hp (Ev.ite_pos hf (Ev.ite_pos ha p))), q⟩
theorem rd_zero (k : Int) (o : List Int) : rd (k :: o) ((0 : Nat) : Int) = k := by simp [rd]
theorem rd_succ (k : Int) (o : List Int) (j : Nat) : rd (k :: o) ((j + 1 : Nat) : Int) = rd o (j : Int) := by simp [rd, List.getD_eq_getElem?_getD]
theorem rd_drop (o : List Int) (i : Nat) (h : i < o.length) : o.drop i = rd o (i : Int) :: o.drop (i + 1) := by
  rw [rd_eq o i h]; exact List.drop_eq_getElem_cons h
theorem Way.all {l : List S53} {W : List Int} : ∀ {o : List Int} {c n : Int}, Way l W c o n → AllAt l.length o
  | [], _, _, _ => fun j hj => absurd hj (by simp)
  | k :: o, c, n, h => fun j hj => by
    cases j with
    | zero => rw [rd_zero]; exact ⟨h.1, h.2.1⟩
    | succ j => rw [rd_succ]; exact Way.all h.2.2.2.2.2.2 j (by simpa using hj)
theorem Way.first {l : List S53} {W : List Int} {o : List Int} {c n : Int} (h : Way l W c o n) (hz : 0 < o.length) : (rd_T53 l (rd o 0)).f0 = c := by
  cases o with
  | nil => simp at hz
  | cons k o => exact h.2.2.1
def Adj (l : List S53) (o : List Int) (i : Nat) : Prop := ∀ j : Nat, i ≤ j → 1 ≤ j → j < o.length → (rd_T53 l (rd o (j : Int))).f0 = (rd_T53 l (rd o ((j - 1 : Nat) : Int))).f1
theorem Way.adj {l : List S53} {W : List Int} : ∀ {o : List Int} {c n : Int}, Way l W c o n → Adj l o 0
  | [], _, _, _ => fun j _ _ hj => absurd hj (by simp)
  | k :: o, c, n, h => fun j h0 h1 hj => by
    obtain ⟨j, rfl⟩ : ∃ i, j = i + 1 := ⟨j - 1, by omega⟩
    rw [rd_succ, Nat.add_sub_cancel]
    have hjo : j < o.length := by simpa using hj
    cases j with
    | zero =>
      rw [rd_zero]
      exact Way.first h.2.2.2.2.2.2 (by omega)
    | succ j =>
      rw [rd_succ]
      have := Way.adj h.2.2.2.2.2.2 (j + 1) (by omega) (by omega) hjo
      rw [Nat.add_sub_cancel] at this
      exact this
theorem isRow_go (l : List S53) (o : List Int) (ho : o.length ≤ 20) (all : AllAt l.length o) (d : Nat) : ∀ i : Nat, 1 ≤ i → o.length - i ≤ d → ∃ b, Ev (fun k => impl_isRow.l0 k l o (i : Int)) b ∧ (b = true ↔ Adj l o i) := by
  induction d with
  | zero =>
    intro i h1 hd
    exact ⟨true, Ev.step (fun k => by rw [impl_isRow.l0]) (Ev.ite_neg (by omega) (Ev.now _)), fun _ j h0 _ h2 => by omega, fun _ => rfl⟩
  | succ d ih =>
    intro i h1 hd
    by_cases hi : i < o.length
    case neg => exact ⟨true, Ev.step (fun k => by rw [impl_isRow.l0]) (Ev.ite_neg (by omega) (Ev.now _)), fun _ j h0 _ h2 => by omega, fun _ => rfl⟩
    have hw : wrap64 ((i : Int) + 1) = ((i + 1 : Nat) : Int) := by rw [w64 (by omega) (by omega)]; omega
    have hw2 : wrap64 ((i : Int) - 1) = ((i - 1 : Nat) : Int) := by rw [w64 (by omega) (by omega)]; omega
    obtain ⟨q0, q1⟩ := all i hi
    obtain ⟨p0, p1⟩ := all (i - 1) (by omega)
    obtain ⟨b, x, y⟩ := ih (i + 1) (by omega) (by omega)
    have c1 : ((i - 1 : Nat) : Int) < (o.length : Int) := by omega
    have c0 : (0 : Int) ≤ ((i - 1 : Nat) : Int) := by omega
    rw [← hw] at x
    rw [← hw2] at p0 p1 c0 c1
    by_cases c : (rd_T53 l (rd o (i : Int))).f0 = (rd_T53 l (rd o (wrap64 ((i : Int) - 1)))).f1
    · refine ⟨b, Ev.step (fun k => by rw [impl_isRow.l0]) ?_, ?_⟩
      · exact Ev.ite_pos (by omega) (Ev.ite_pos (by omega) (Ev.ite_pos q0 (Ev.ite_pos q1 (Ev.ite_pos c0 (Ev.ite_pos c1 (Ev.ite_pos p0 (Ev.ite_pos p1 (Ev.ite_pos c x))))))))
      · rw [y]
        constructor
        · intro h j h0 h1 h2
          rcases Nat.lt_or_ge i j with h3 | h3
          · exact h j h3 h1 h2
          · obtain rfl : j = i := by omega
            rw [hw2] at c
            exact c
        · intro h j h0 h1 h2
          exact h j (by omega) h1 h2
    · refine ⟨false, Ev.step (fun k => by rw [impl_isRow.l0]) ?_, fun h => absurd h (by decide), fun h => ?_⟩
      · exact Ev.ite_pos (by omega) (Ev.ite_pos (by omega) (Ev.ite_pos q0 (Ev.ite_pos q1 (Ev.ite_pos c0 (Ev.ite_pos c1 (Ev.ite_pos p0 (Ev.ite_pos p1 (Ev.ite_neg c (Ev.now _)))))))))
      · have := h i (Nat.le_refl _) h1 hi
        rw [← hw2] at this
        exact absurd this c
theorem isRow_val (l : List S53) (o : List Int) (ho : o.length ≤ 20) (all : AllAt l.length o) : ∃ b, Ev (fun k => impl_isRow.f k l o) b ∧ (b = true ↔ Adj l o 1) := isRow_go l o ho all o.length 1 (by omega) (by omega)
theorem wayBy_go (l : List S53) (hp : PlanOk l) {W : List Int} (top : ∀ n : Int, 0 ≤ n → n < 8 → rd W n ≤ 1100) (o : List Int) (ho : o.length ≤ 20) (n : Int) (d : Nat) : ∀ (i : Nat) (c : Int), i ≤ o.length → o.length - i = d → (0 ≤ c ∧ c < 8) → Way l W c (o.drop i) n →
    Ev (fun k => impl_ArriveBy.l0 k l (rd W c) o (o.length : Int) (i : Int)) (rd W n, true) := by
  induction d with
  | zero =>
    intro i c h0 hd hc hy
    rw [List.drop_of_length_le (by omega)] at hy
    obtain rfl : c = n := hy
    exact Ev.step (fun k => by rw [impl_ArriveBy.l0]) (Ev.ite_neg (by omega) (Ev.now _))
  | succ d ih =>
    intro i c h0 hd hc hy
    have hi : i < o.length := by omega
    have hw : wrap64 ((i : Int) + 1) = ((i + 1 : Nat) : Int) := by rw [w64 (by omega) (by omega)]; omega
    rw [rd_drop o i hi] at hy
    obtain ⟨k0, k1, k2, k3, k4, k5, k6⟩ := hy
    have hx := hp.at_ (rd o (i : Int)).toNat (by omega)
    rw [Int.toNat_of_nonneg k0] at hx
    subst k2
    have e := (over_val (W := W) hx.2.2.2 k3 (by have := top _ hc.1 hc.2; omega)).2
    rw [decide_eq_true k4, ← k5] at e
    have := ih (i + 1) _ (by omega) (by omega) ⟨hx.2.1.1, by omega⟩ k6
    rw [← hw] at this
    refine Ev.step (fun k => by rw [impl_ArriveBy.l0]) ?_
    exact Ev.ite_pos (by omega) (Ev.ite_pos (by omega) (Ev.ite_pos (by omega) (Ev.ite_pos k0 (Ev.ite_pos k1 (Ev.opt_bind e (Ev.ite_pos rfl this))))))
theorem wayBy (l : List S53) (f a n : Int) (hp : planB l = true) (hf : inB f 0 7 = true) (ha : inB a 0 1000 = true) {W L : List Int} (F : Found l f a W L) (o : List Int) (ho : o.length ≤ 20) (hy : Way l W f o n) :
    Ev (fun k => impl_ArriveBy.f k l f a o) (rd W n, true) := by
  have hi := implPlan_val l
  have hf' := inB_iff.mp hf
  obtain ⟨M, rk, T⟩ := F.tree
  have all := hy.all
  have hl := (planB_ok hp).len
  obtain ⟨q, hq, hq2⟩ := areOf_val o l.length (by omega)
  obtain rfl : q = true := hq2.mpr ⟨ho, all⟩
  obtain ⟨b, hb, hb2⟩ := isRow_val l o ho all
  obtain rfl : b = true := hb2.mpr (fun j h0 h1 h2 => hy.adj j (by omega) h1 h2)
  have go := wayBy_go l (planB_ok hp) (fun m m0 m1 => by have := T.low m m0 m1; have := T.top; omega) o ho n o.length 0 f (by omega) (by omega) ⟨hf'.1, by omega⟩ hy
  rw [F.root] at go
  have pI : Ev (fun k => impl_ArriveBy.j0 k l a o false) (rd W n, true) := by
    refine Ev.step (fun k => by rw [impl_ArriveBy.j0]) ?_
    exact Ev.ite_neg (by decide) go
  simp only [impl_ArriveBy.f, impl_isWhen.f, impl_isNode.f, within_val, Option.bind_some]
  refine Ev.opt_bind hi (Ev.ite_pos hp (Ev.ite_pos hf (Ev.ite_pos ha (Ev.opt_bind hq (Ev.ite_pos rfl (Ev.bind hb (Ev.ite_pos rfl ?_)))))))
  by_cases hz : (o.length : Int) > 0
  · obtain ⟨q0, q1⟩ := all 0 (by omega)
    have e : ((rd_T53 l (rd o 0)).f0 != f) = false := by rw [hy.first (by omega)]; simp
    refine Ev.ite_pos hz (Ev.ite_pos hz (Ev.ite_pos q0 (Ev.ite_pos q1 ?_)))
    rw [e]; exact pI
  · exact Ev.ite_neg hz pI
def endOf (l : List S53) (o : List Int) (c : Int) (i : Nat) : Int := if i < o.length then (rd_T53 l (rd o ((o.length - 1 : Nat) : Int))).f1 else c
theorem lowBy_go (l : List S53) (hp : PlanOk l) {W : List Int} (still : ∀ j : Nat, j < l.length → ¬ Imp W (rd_T53 l (j : Int))) (o : List Int) (ho : o.length ≤ 20) (all : AllAt l.length o) (adj : Adj l o 1) (d : Nat) :
    ∀ (i : Nat) (c t : Int), i ≤ o.length → o.length - i = d → (i < o.length → (rd_T53 l (rd o (i : Int))).f0 = c) → 0 ≤ rd W c → rd W c ≤ t → t ≤ 1100 →
    ∃ u : Int × Bool, Ev (fun k => impl_ArriveBy.l0 k l t o (o.length : Int) (i : Int)) u ∧ (u.2 = true → 0 ≤ rd W (endOf l o c i) ∧ rd W (endOf l o c i) ≤ u.1) := by
  induction d with
  | zero =>
    intro i c t h0 hd _ h1 h2 h3
    refine ⟨(t, true), Ev.step (fun k => by rw [impl_ArriveBy.l0]) (Ev.ite_neg (by omega) (Ev.now _)), fun _ => ?_⟩
    unfold endOf
    rw [if_neg (by omega)]
    exact ⟨h1, h2⟩
  | succ d ih =>
    intro i c t h0 hd hc h1 h2 h3
    have hi : i < o.length := by omega
    have hw : wrap64 ((i : Int) + 1) = ((i + 1 : Nat) : Int) := by rw [w64 (by omega) (by omega)]; omega
    obtain ⟨q0, q1⟩ := all i hi
    have hx := hp.at_ (rd o (i : Int)).toNat (by omega)
    have st := still (rd o (i : Int)).toNat (by omega)
    rw [Int.toNat_of_nonneg q0] at hx st
    have hci := hc hi
    subst hci
    have openI : ∀ {r}, _ → Ev (fun k => impl_ArriveBy.l0 k l t o (o.length : Int) (i : Int)) r := fun {r} h => Ev.step (r := r) (fun k => by rw [impl_ArriveBy.l0]) (Ev.ite_pos (by omega) (Ev.ite_pos (by omega) (Ev.ite_pos (by omega) (Ev.ite_pos q0 (Ev.ite_pos q1 h)))))
    rcases by_both _ hx.2.2.2 t (by omega) h3 with ⟨hlt, v, v0, v1, _, e2⟩ | ⟨_, _, v, e2⟩
    case inr => exact ⟨(0, false), openI (Ev.opt_bind e2 (Ev.ite_neg (by simp) (Ev.now _))), fun h => absurd h (by decide)⟩
    have hv : v = (if t < (rd_T53 l (rd o (i : Int))).f2 then (rd_T53 l (rd o (i : Int))).f2 else t) + (rd_T53 l (rd o (i : Int))).f4 := by
      have e3 := (over_val (x := rd_T53 l (rd o (i : Int))) (W := [t]) hx.2.2.2)
      have w1 : wrap64 ((rd_T53 l (rd o (i : Int))).f2 + (rd_T53 l (rd o (i : Int))).f4) = (rd_T53 l (rd o (i : Int))).f2 + (rd_T53 l (rd o (i : Int))).f4 := w64 (by omega) (by omega)
      have w2 : wrap64 (t + (rd_T53 l (rd o (i : Int))).f4) = t + (rd_T53 l (rd o (i : Int))).f4 := w64 (by omega) (by omega)
      unfold impl_Contact_by.f mx at e2
      by_cases c2 : t < (rd_T53 l (rd o (i : Int))).f2
      · rw [if_pos c2, w1] at e2
        rw [if_pos c2]
        simp only [Option.some.injEq, Prod.mk.injEq] at e2
        exact e2.1.symm
      · rw [if_neg c2, w2] at e2
        rw [if_neg c2]
        simp only [Option.some.injEq, Prod.mk.injEq] at e2
        exact e2.1.symm
    have st2 : 0 ≤ rd W (rd_T53 l (rd o (i : Int))).f1 ∧ rd W (rd_T53 l (rd o (i : Int))).f1 ≤ arr W (rd_T53 l (rd o (i : Int))) := by
      unfold Imp at st
      omega
    have ar : arr W (rd_T53 l (rd o (i : Int))) ≤ v := by
      unfold arr
      rw [hv]
      split <;> split <;> omega
    obtain ⟨u, x, y⟩ := ih (i + 1) (rd_T53 l (rd o (i : Int))).f1 v (by omega) (by omega) (fun h => by have := adj (i + 1) (by omega) (by omega) h; rw [Nat.add_sub_cancel] at this; exact this) st2.1 (by omega) v1
    rw [← hw] at x
    refine ⟨u, openI (Ev.opt_bind e2 (Ev.ite_pos rfl x)), fun h => ?_⟩
    have := y h
    have e : endOf l o (rd_T53 l (rd o (i : Int))).f0 i = endOf l o (rd_T53 l (rd o (i : Int))).f1 (i + 1) := by
      unfold endOf
      rw [if_pos hi]
      by_cases h2 : i + 1 < o.length
      · rw [if_pos h2]
      · rw [if_neg h2, show o.length - 1 = i by omega]
    rw [e]
    exact this
theorem lowBy (l : List S53) (hl : l.length ≤ 1048576) (f a : Int) (o : List Int) (ho : o.length ≤ 1048576) : ∃ u : Int × Bool, Ev (fun k => impl_ArriveBy.f k l f a o) u ∧
    (u.2 = true → planB l = true ∧ inB f 0 7 = true ∧ inB a 0 1000 = true ∧ AllAt l.length o ∧ ∀ W L, Found l f a W L → 0 ≤ rd W (endOf l o f 0) ∧ rd W (endOf l o f 0) ≤ u.1) := by
  have hi := implPlan_val l
  have noI : Ev (fun k => impl_ArriveBy.j0 k l a o true) (0, false) := Ev.step (fun k => by rw [impl_ArriveBy.j0]) (Ev.ite_pos rfl (Ev.now _))
  simp only [impl_ArriveBy.f, impl_isWhen.f, impl_isNode.f, within_val, Option.bind_some]
  by_cases hp : planB l = true
  case neg => exact ⟨(0, false), Ev.opt_bind hi (Ev.ite_neg hp noI), fun h => absurd h (by decide)⟩
  by_cases hf : inB f 0 7 = true
  case neg => exact ⟨(0, false), Ev.opt_bind hi (Ev.ite_pos hp (Ev.ite_neg hf noI)), fun h => absurd h (by decide)⟩
  by_cases ha : inB a 0 1000 = true
  case neg => exact ⟨(0, false), Ev.opt_bind hi (Ev.ite_pos hp (Ev.ite_pos hf (Ev.ite_neg ha noI))), fun h => absurd h (by decide)⟩
  obtain ⟨q, hq, hq2⟩ := areOf_val o l.length (by omega)
  cases q with
  | false => exact ⟨(0, false), Ev.opt_bind hi (Ev.ite_pos hp (Ev.ite_pos hf (Ev.ite_pos ha (Ev.opt_bind hq (Ev.ite_neg (by decide) noI))))), fun h => absurd h (by decide)⟩
  | true =>
    obtain ⟨h20, all⟩ := hq2.mp rfl
    obtain ⟨b, hb, hb2⟩ := isRow_val l o h20 all
    cases b with
    | false => exact ⟨(0, false), Ev.opt_bind hi (Ev.ite_pos hp (Ev.ite_pos hf (Ev.ite_pos ha (Ev.opt_bind hq (Ev.ite_pos rfl (Ev.bind hb (Ev.ite_neg (by decide) noI))))))), fun h => absurd h (by decide)⟩
    | true =>
      have adj := hb2.mp rfl
      have ha' := inB_iff.mp ha
      have hf' := inB_iff.mp hf
      obtain ⟨W, L, F, hW, _, _⟩ := search_val l (planB_ok hp) f a ⟨hf'.1, by omega⟩ ha'
      have key : ∀ e : Bool, (e = false → 0 < o.length → (rd_T53 l (rd o 0)).f0 = f) → ∃ u : Int × Bool, Ev (fun k => impl_ArriveBy.j0 k l a o e) u ∧ (u.2 = true → ∀ W L, Found l f a W L → 0 ≤ rd W (endOf l o f 0) ∧ rd W (endOf l o f 0) ≤ u.1) := by
        intro e he
        cases e with
        | true => exact ⟨(0, false), noI, fun h => absurd h (by decide)⟩
        | false =>
          have step : ∀ W L, Found l f a W L → ∃ u : Int × Bool, Ev (fun k => impl_ArriveBy.j0 k l a o false) u ∧ (u.2 = true → 0 ≤ rd W (endOf l o f 0) ∧ rd W (endOf l o f 0) ≤ u.1) := fun W L F => by
            have hr := F.root
            obtain ⟨u, x, y⟩ := lowBy_go l (planB_ok hp) F.still o h20 all adj o.length 0 f a (by omega) (by omega) (fun h => he rfl h) (by omega) (by omega) (by omega)
            refine ⟨u, Ev.step (fun k => by rw [impl_ArriveBy.j0]) ?_, y⟩
            exact Ev.ite_neg (by decide) x
          obtain ⟨u, x, _⟩ := step W L F
          refine ⟨u, x, fun h W2 L2 F2 => ?_⟩
          obtain ⟨u2, x2, y2⟩ := step W2 L2 F2
          obtain rfl := Ev.uniq x x2
          exact y2 h
      by_cases hz : (o.length : Int) > 0
      · obtain ⟨q0, q1⟩ := all 0 (by omega)
        obtain ⟨u, x, y⟩ := key ((rd_T53 l (rd o 0)).f0 != f) (fun h _ => by simpa using h)
        exact ⟨u, Ev.opt_bind hi (Ev.ite_pos hp (Ev.ite_pos hf (Ev.ite_pos ha (Ev.opt_bind hq (Ev.ite_pos rfl (Ev.bind hb (Ev.ite_pos rfl (Ev.ite_pos hz (Ev.ite_pos hz (Ev.ite_pos q0 (Ev.ite_pos q1 x))))))))))), fun h => ⟨hp, hf, ha, all, y h⟩⟩
      · obtain ⟨u, x, y⟩ := key false (fun _ h => by omega)
        exact ⟨u, Ev.opt_bind hi (Ev.ite_pos hp (Ev.ite_pos hf (Ev.ite_pos ha (Ev.opt_bind hq (Ev.ite_pos rfl (Ev.bind hb (Ev.ite_pos rfl (Ev.ite_neg hz x)))))))), fun h => ⟨hp, hf, ha, all, y h⟩⟩
def Code (c : List Int) : Prop := c.length ≤ 140737488355328 ∧ ∀ x ∈ c, 0 ≤ x ∧ x ≤ 255
theorem code_of {l : List Int} (h0 : l.length * 1 ≤ 140737488351232) (h : ∀ x ∈ l, (Lit.int .u8 x).wf = true) : Code l := ⟨by omega, fun x hx => wf_u8 (h x hx)⟩
theorem Code.rd {c : List Int} (h : Code c) (i : Int) : 0 ≤ rd c i ∧ rd c i ≤ 255 := by
  unfold Go.Proofs.YtckndinhkkhonaaW.PrintWords.rd
  rw [List.getD_eq_getElem?_getD]
  by_cases hi : i.toNat < c.length
  · rw [List.getElem?_eq_getElem hi]
    exact h.2 _ (List.getElem_mem hi)
  · rw [List.getElem?_eq_none (by omega)]
    simp
theorem u64_wraps (n : Int) (h0 : 0 ≤ n) (h1 : n < 2 ^ 64) : IntKind.u64.wrap n = n := by
  have e : IntKind.u64.wrap n = n % 18446744073709551616 := by simp [IntKind.wrap, IntKind.bits, IntKind.signed]
  rw [e]; omega
theorem u64_bd (n : Int) : 0 ≤ IntKind.u64.wrap n ∧ IntKind.u64.wrap n < 2 ^ 64 := by
  have e : IntKind.u64.wrap n = n % 18446744073709551616 := by simp [IntKind.wrap, IntKind.bits, IntKind.signed]
  rw [e]; omega
theorem low_byte (n : Int) : 0 ≤ wrap64 (Go.bits .and .u64 (IntKind.u64.wrap n / 1099511627776) 255) ∧ wrap64 (Go.bits .and .u64 (IntKind.u64.wrap n / 1099511627776) 255) ≤ 255 := by
  obtain ⟨h0, h1⟩ := u64_bd n
  generalize IntKind.u64.wrap n = x at h0 h1 ⊢
  have := bits_mask .u64 64 (by decide) u64_wraps 8 (by omega) (x / 1099511627776) (by omega) (by omega)
  have e : Go.bits .and .u64 (x / 1099511627776) 255 = (x / 1099511627776) % 256 := by simpa using this
  rw [e, w64 (by omega) (by omega)]
  omega
theorem next_val {c : List Int} (hc : Code c) {p : Int} (s : Int) (h0 : 0 ≤ p) (h1 : p ≤ 4611686018427387904) :
    ∃ b s', spec_l1Cur_next.f c p s = some (b, p + 1, s') ∧ 0 ≤ b ∧ b ≤ 255 := by
  have hl := hc.1
  have hw : wrap64 (p + 1) = p + 1 := w64 (by omega) (by omega)
  unfold spec_l1Cur_next.f
  rw [hw]
  by_cases hp : p < (c.length : Int)
  · rw [if_pos hp, if_pos h0, if_pos (show p + 1 ≤ (c.length : Int) by omega)]
    have hr := hc.rd p
    refine ⟨_, _, rfl, ?_⟩
    rw [w64 (by omega) (by omega)]
    exact hr
  · rw [if_neg hp, if_neg (show ¬ p + 1 ≤ (c.length : Int) by omega)]
    exact ⟨_, _, rfl, low_byte _⟩
theorem pick_val {c : List Int} (hc : Code c) {p : Int} (s n : Int) (h0 : 0 ≤ p) (h1 : p ≤ 4611686018427387903) :
    ∃ v p' s', spec_l1Cur_pick.f c p s n = some (v, p', s') ∧ 0 ≤ v ∧ (v < n ∨ n ≤ 1 ∧ v = 0) ∧ p ≤ p' ∧ p' ≤ p + 2 := by
  unfold spec_l1Cur_pick.f
  by_cases hn : n ≤ 1
  · rw [if_pos hn]
    exact ⟨0, p, s, rfl, by omega, .inr ⟨hn, rfl⟩, by omega, by omega⟩
  · rw [if_neg hn]
    obtain ⟨b, s', e, b0, b1⟩ := next_val hc s h0 (by omega)
    rw [e, Option.bind_some]
    by_cases h2 : n > 200
    · rw [if_pos h2]
      obtain ⟨b2, s2, e2, b20, b21⟩ := next_val hc (p := p + 1) s' (by omega) (by omega)
      simp only
      rw [e2, Option.bind_some, if_neg (show ¬ n = 0 by omega)]
      refine ⟨_, _, _, rfl, ?_, .inl ?_, by simp only; omega, by simp only; omega⟩
      · rw [w64 (x := b * 256) (by omega) (by omega), w64 (by omega) (by omega), Int.tmod_eq_emod_of_nonneg (by omega)]
        exact Int.emod_nonneg _ (by omega)
      · rw [w64 (x := b * 256) (by omega) (by omega), w64 (by omega) (by omega), Int.tmod_eq_emod_of_nonneg (by omega)]
        exact Int.emod_lt_of_pos _ (by omega)
    · rw [if_neg h2]
      simp only
      rw [if_neg (show ¬ n = 0 by omega)]
      refine ⟨_, _, _, rfl, ?_, .inl ?_, by omega, by omega⟩
      · rw [Int.tmod_eq_emod_of_nonneg (by omega)]
        exact Int.emod_nonneg _ (by omega)
      · rw [Int.tmod_eq_emod_of_nonneg (by omega)]
        exact Int.emod_lt_of_pos _ (by omega)
theorem one_val {c : List Int} (hc : Code c) {p : Int} (s n : Int) (h0 : 0 ≤ p) (h1 : p ≤ 4611686018427387903) :
    ∃ b p' s', spec_l1Cur_one.f c p s n = some (b, p', s') ∧ p ≤ p' ∧ p' ≤ p + 2 := by
  obtain ⟨v, p', s', e, _, _, p0, p1⟩ := pick_val hc s n h0 h1
  unfold spec_l1Cur_one.f
  rw [e, Option.bind_some]
  exact ⟨_, _, _, rfl, p0, p1⟩
theorem wrapS (t : Nat) (h : t ≤ 1000) : wrap64 ((t : Int) + 1) = ((t + 1 : Nat) : Int) := by rw [w64 (by omega) (by omega)]; omega
theorem wrapP (t : Nat) (h : 0 < t) (h2 : t ≤ 1000) : wrap64 ((t : Int) - 1) = ((t - 1 : Nat) : Int) := by rw [w64 (by omega) (by omega)]; omega
set_option maxHeartbeats 1000000 in
theorem overA_tries {c : List Int} (hc : Code c) (l : List S53) (hl : 0 < l.length) (hl2 : l.length ≤ 25) (acc : List Int) (hacc : acc.length ≤ 8) (hall : ∀ j : Nat, j < acc.length → 0 ≤ rd acc (j : Int) ∧ rd acc (j : Int) < (l.length : Int)) (m : Int) (q : Int)
    (next : ∀ (v p s : Int), 0 ≤ v → v < (l.length : Int) → 0 ≤ p → p ≤ q → ∃ out p' s', Ev (fun k => spec_l1Cur_over.l0 k l (acc ++ [v]) (wrap64 (m - 1)) c p s) (out, p', s') ∧ out.length ≤ 8 ∧ (∀ j : Nat, j < out.length → 0 ≤ rd out (j : Int) ∧ rd out (j : Int) < (l.length : Int)) ∧ 0 ≤ p' ∧ p' ≤ 4611686018427300000) (d : Nat) :
    ∀ (t : Nat) (v p s : Int), t ≤ 12 → 12 - t = d → 0 ≤ v → v < (l.length : Int) → 0 ≤ p → p + 2 * d ≤ q → q ≤ 4611686018427300000 →
    ∃ out p' s', Ev (fun k => spec_l1Cur_over.l1 k l acc m v (t : Int) c p s) (out, p', s') ∧ out.length ≤ 8 ∧ (∀ j : Nat, j < out.length → 0 ≤ rd out (j : Int) ∧ rd out (j : Int) < (l.length : Int)) ∧ 0 ≤ p' ∧ p' ≤ 4611686018427300000 := by
  have room : acc.length < 17592186044416 := by omega
  induction d with
  | zero =>
    intro t v p s ht hd v0 v1 p0 p1 hq
    obtain ⟨out, p', s', f, g⟩ := next v p s v0 v1 p0 (by omega)
    exact ⟨out, p', s', Ev.step (fun k => by rw [spec_l1Cur_over.l1]) (Ev.ite_neg (by omega) (Ev.ite_pos room f)), g⟩
  | succ d ih =>
    intro t v p s ht hd v0 v1 p0 p1 hq
    have t12 : (t : Int) < 12 := by omega
    have t13 : t + 1 ≤ 12 := by omega
    have t14 : 12 - (t + 1) = d := by omega
    have hpq : p ≤ q := by omega
    obtain ⟨v2, p2, s2, e2, w0, w1, r0, r1⟩ := pick_val hc (p := p) s (l.length : Int) p0 (by omega)
    have w2 : v2 < (l.length : Int) := by omega
    have p20 : 0 ≤ p2 := by omega
    have p21 : p2 + 2 * (d : Int) ≤ q := by omega
    clear w1 r0 r1 p1
    obtain ⟨out, p', s', f, g⟩ := next v p s v0 v1 p0 hpq
    obtain ⟨out2, p3, s3, f2, g2⟩ := ih (t + 1) v2 p2 s2 t13 t14 w0 w2 p20 p21 hq
    rw [← wrapS t (by omega)] at f2
    by_cases hz : (acc.length : Int) > 0
    case neg =>
      refine ⟨out, p', s', Ev.step (fun k => by rw [spec_l1Cur_over.l1]) ?_, g⟩
      exact Ev.ite_pos t12 (Ev.ite_neg hz (Ev.ite_pos room f))
    have hlt : acc.length - 1 < acc.length := by omega
    have hw2 := wrapP acc.length (by omega) (by omega)
    obtain ⟨k0, k1⟩ := hall (acc.length - 1) hlt
    rw [← hw2] at k0 k1
    have m0 : 0 ≤ wrap64 ((acc.length : Int) - 1) := by rw [hw2]; exact Int.natCast_nonneg _
    have m1 : wrap64 ((acc.length : Int) - 1) < (acc.length : Int) := by rw [hw2]; exact Int.ofNat_lt.mpr hlt
    by_cases e : (rd_T53 l v).f0 = (rd_T53 l (rd acc (wrap64 ((acc.length : Int) - 1)))).f1
    · refine ⟨out, p', s', Ev.step (fun k => by rw [spec_l1Cur_over.l1]) ?_, g⟩
      refine Ev.ite_pos t12 (Ev.ite_pos hz (Ev.ite_pos v0 (Ev.ite_pos v1 ?_)))
      exact Ev.ite_pos m0 (Ev.ite_pos m1 (Ev.ite_pos k0 (Ev.ite_pos k1 (Ev.ite_pos e (Ev.ite_pos room f)))))
    · refine ⟨out2, p3, s3, Ev.step (fun k => by rw [spec_l1Cur_over.l1]) ?_, g2⟩
      refine Ev.ite_pos t12 (Ev.ite_pos hz (Ev.ite_pos v0 (Ev.ite_pos v1 ?_)))
      exact Ev.ite_pos m0 (Ev.ite_pos m1 (Ev.ite_pos k0 (Ev.ite_pos k1 (Ev.ite_neg e (Ev.opt_bind e2 f2)))))
set_option maxHeartbeats 1000000 in
theorem overA_go {c : List Int} (hc : Code c) (l : List S53) (hl2 : l.length ≤ 25) (n : Nat) (hn : n ≤ 4) : ∀ (acc : List Int) (p s : Int), acc.length + n ≤ 8 → (∀ j : Nat, j < acc.length → 0 ≤ rd acc (j : Int) ∧ rd acc (j : Int) < (l.length : Int)) → 0 ≤ p → p ≤ 10000 - 100 * n →
    ∃ out p' s', Ev (fun k => spec_l1Cur_over.l0 k l acc (n : Int) c p s) (out, p', s') ∧ out.length ≤ 8 ∧ (∀ j : Nat, j < out.length → 0 ≤ rd out (j : Int) ∧ rd out (j : Int) < (l.length : Int)) ∧ 0 ≤ p' ∧ p' ≤ 4611686018427300000 := by
  induction n with
  | zero =>
    intro acc p s ha hall p0 p1
    refine ⟨acc, p, s, Ev.step (fun k => by rw [spec_l1Cur_over.l0]) (Ev.ite_neg (by decide) (Ev.step (fun k => by rw [spec_l1Cur_over.j1]) ?_)), by omega, hall, by omega, by omega⟩
    exact Ev.ite_neg (by decide) (Ev.now _)
  | succ n ih =>
    intro acc p s ha hall p0 p1
    have hw : wrap64 (((n + 1 : Nat) : Int) - 1) = (n : Int) := by rw [w64 (by omega) (by omega)]; omega
    have open_ : ∀ {r}, Ev (fun k => spec_l1Cur_over.j1 k l acc ((n + 1 : Nat) : Int) (decide ((l.length : Int) > 0)) c p s) r → Ev (fun k => spec_l1Cur_over.l0 k l acc ((n + 1 : Nat) : Int) c p s) r := fun {r} h => Ev.step (r := r) (fun k => by rw [spec_l1Cur_over.l0]) (Ev.ite_pos (by omega) h)
    by_cases hz : (l.length : Int) > 0
    · rw [decide_eq_true hz] at open_
      obtain ⟨v, p2, s2, e2, w0, w1, r0, r1⟩ := pick_val hc (p := p) s (l.length : Int) p0 (by omega)
      obtain ⟨out, p', s', f, g⟩ := overA_tries hc l (by omega) hl2 acc (by omega) hall ((n + 1 : Nat) : Int) (10000 - 100 * n) (fun v p s v0 v1 q0 q1 => by
        have := ih (by omega) (acc ++ [v]) p s (by simp; omega) (fun j hj => by
          rw [List.length_append, List.length_singleton] at hj
          by_cases e : j < acc.length
          · rw [rd_eq _ j (by simp; omega), List.getElem_append_left e, ← rd_eq acc j e]
            exact hall j e
          · obtain rfl : j = acc.length := by omega
            rw [rd_eq _ acc.length (by simp)]
            simp only [List.getElem_concat_length]
            exact ⟨v0, v1⟩) q0 q1
        rw [← hw] at this
        exact this) 12 0 v p2 s2 (by omega) (by omega) w0 (by omega) (by omega) (by omega) (by omega)
      refine ⟨out, p', s', open_ (Ev.step (fun k => by rw [spec_l1Cur_over.j1]) ?_), g⟩
      exact Ev.ite_pos rfl (Ev.opt_bind e2 f)
    · rw [decide_eq_false hz] at open_
      refine ⟨acc, p, s, open_ (Ev.step (fun k => by rw [spec_l1Cur_over.j1]) ?_), by omega, hall, by omega, by omega⟩
      exact Ev.ite_neg (by decide) (Ev.now _)
theorem overA_val {c : List Int} (hc : Code c) (l : List S53) (hl2 : l.length ≤ 25) (p s : Int) (p0 : 0 ≤ p) (p1 : p ≤ 5000) :
    ∃ out p' s', Ev (fun k => spec_l1Cur_over.f k c p s l) (out, p', s') ∧ out.length ≤ 8 ∧ (∀ j : Nat, j < out.length → 0 ≤ rd out (j : Int) ∧ rd out (j : Int) < (l.length : Int)) ∧ 0 ≤ p' ∧ p' ≤ 4611686018427300000 := by
  obtain ⟨v, p2, s2, e2, w0, w1, r0, r1⟩ := pick_val hc (p := p) s 5 p0 (by omega)
  obtain ⟨n, rfl⟩ := Int.eq_ofNat_of_zero_le w0
  obtain ⟨out, p', s', f, g⟩ := overA_go hc l hl2 n (by omega) [] p2 s2 (by simp; omega) (fun j hj => by simp at hj) (by omega) (by omega)
  simp only [spec_l1Cur_over.f]
  exact ⟨out, p', s', Ev.opt_bind e2 f, g⟩
theorem sameInts_go (l : List Int) (hl : l.length ≤ 1000000) (d : Nat) : ∀ i : Nat, i ≤ l.length → l.length - i = d → Ev (fun k => laws_sameInts.l0 k l l (l.length : Int) (i : Int)) true := by
  induction d with
  | zero =>
    intro i h0 hd
    exact Ev.step (fun k => by rw [laws_sameInts.l0]) (Ev.ite_neg (by omega) (Ev.now _))
  | succ d ih =>
    intro i h0 hd
    have hw : wrap64 ((i : Int) + 1) = ((i + 1 : Nat) : Int) := by rw [w64 (by omega) (by omega)]; omega
    have := ih (i + 1) (by omega) (by omega)
    rw [← hw] at this
    exact Ev.step (fun k => by rw [laws_sameInts.l0]) (Ev.ite_pos (by omega) (Ev.ite_pos (by omega) (Ev.ite_pos (by omega) (Ev.ite_pos (by omega) (Ev.ite_pos rfl this)))))
theorem sameInts_self (l : List Int) (hl : l.length ≤ 1000000) : Ev (fun k => laws_sameInts.f k l l) true := by
  simp only [laws_sameInts.f]
  exact Ev.ite_pos trivial (sameInts_go l hl l.length 0 (by omega) (by omega))
theorem among_val {c : List Int} (hc : Code c) {p : Int} (s : Int) (l : List Int) (hl : 2 ≤ l.length) (hb : l.length ≤ 1000000) (h0 : 0 ≤ p) (h1 : p ≤ 4611686018427387903) :
    ∃ v p' s', spec_l1Cur_among.f c p s l = some (v, p', s') ∧ v ∈ l ∧ p ≤ p' ∧ p' ≤ p + 2 := by
  obtain ⟨v, p', s', e, v0, v1, p0, p1⟩ := pick_val hc s (l.length : Int) h0 h1
  have v2 : v < (l.length : Int) := by omega
  unfold spec_l1Cur_among.f
  rw [e, Option.bind_some]
  simp only
  rw [if_pos v0, if_pos v2]
  obtain ⟨n, rfl⟩ := Int.eq_ofNat_of_zero_le v0
  have hn : n < l.length := by omega
  refine ⟨_, _, _, rfl, ?_, p0, p1⟩
  rw [rd_eq l n hn]
  exact List.getElem_mem hn
theorem plan_go {c : List Int} (hc : Code c) (n : Nat) (hn : n ≤ 21) : ∀ (acc : List S53) (p s : Int), acc.length + n ≤ 25 → 0 ≤ p → p + 10 * n + 4 ≤ 4611686018427380000 →
    ∃ l p' s', Ev (fun k => spec_l1Cur_plan.l0 k acc (n : Int) c p s) (l, p', s') ∧ l.length ≤ 25 ∧ p ≤ p' ∧ p' ≤ p + 10 * n + 4 := by
  induction n with
  | zero =>
    intro acc p s ha h0 h1
    by_cases hz : (acc.length : Int) > 0
    · obtain ⟨b, p1, s1, e1, q0, q1⟩ := one_val hc s 30 h0 (by omega)
      cases b with
      | false =>
        refine ⟨acc, p1, s1, Ev.step (fun k => by rw [spec_l1Cur_plan.l0]) ?_, by omega, by omega, by omega⟩
        refine Ev.ite_neg (by decide) (Ev.ite_pos hz (Ev.opt_bind e1 ?_))
        exact Ev.ite_neg (by simp) (Ev.now _)
      | true =>
        obtain ⟨v, p2, s2, e2, _, r0, r1⟩ := among_val hc (p := p1) s1 ([0, 1000, 1001] : List Int) (by decide) (by decide) (by omega) (by omega)
        refine ⟨acc.set (0 : Int).toNat ⟨(rd_T53 acc 0).f0, (rd_T53 acc 0).f1, (rd_T53 acc 0).f2, v, (rd_T53 acc 0).f4⟩, p2, s2, Ev.step (fun k => by rw [spec_l1Cur_plan.l0]) ?_, by rw [List.length_set]; omega, by omega, by omega⟩
        refine Ev.ite_neg (by decide) (Ev.ite_pos hz (Ev.opt_bind e1 ?_))
        refine Ev.ite_pos rfl (Ev.opt_bind e2 ?_)
        exact Ev.ite_pos hz (Ev.now _)
    · exact ⟨acc, p, s, Ev.step (fun k => by rw [spec_l1Cur_plan.l0]) (Ev.ite_neg (by decide) (Ev.ite_neg hz (Ev.now _))), by omega, by omega, by omega⟩
  | succ n ih =>
    intro acc p s ha h0 h1
    have hw : wrap64 (((n + 1 : Nat) : Int) - 1) = (n : Int) := by rw [w64 (by omega) (by omega)]; omega
    obtain ⟨a1, p1, s1, e1, _, _, q1, r1⟩ := pick_val hc s 5 h0 (by omega)
    obtain ⟨a2, p2, s2, e2, _, _, q2, r2⟩ := pick_val hc (p := p1) s1 5 (by omega) (by omega)
    obtain ⟨a3, p3, s3, e3, _, _, q3, r3⟩ := pick_val hc (p := p2) s2 40 (by omega) (by omega)
    obtain ⟨a4, p4, s4, e4, _, _, q4, r4⟩ := pick_val hc (p := p3) s3 6 (by omega) (by omega)
    obtain ⟨a5, p5, s5, e5, _, _, q5, r5⟩ := pick_val hc (p := p4) s4 30 (by omega) (by omega)
    have room : acc.length < 3518437208883 := by omega
    have go : ∀ x : S53, ∃ l p' s', Ev (fun k => spec_l1Cur_plan.l0 k (acc ++ [x]) (wrap64 (((n + 1 : Nat) : Int) - 1)) c p5 s5) (l, p', s') ∧ l.length ≤ 25 ∧ p ≤ p' ∧ p' ≤ p + 10 * ((n + 1 : Nat) : Int) + 4 := fun x => by
      obtain ⟨l, p', s', f, g1, g2, g3⟩ := ih (by omega) (acc ++ [x]) p5 s5 (by simp; omega) (by omega) (by omega)
      rw [← hw] at f
      exact ⟨l, p', s', f, g1, by omega, by omega⟩
    by_cases e : a1 = a2
    · obtain ⟨l, p', s', f, g⟩ := go ⟨a1, Int.tmod (wrap64 (a2 + 1)) 5, a3, wrap64 ((wrap64 (a3 + 1)) + a5), a4⟩
      exact ⟨l, p', s', Ev.step (fun k => by rw [spec_l1Cur_plan.l0]) (Ev.ite_pos (by omega) (Ev.opt_bind e1 (Ev.opt_bind e2 (Ev.opt_bind e3 (Ev.opt_bind e4 (Ev.opt_bind e5 (Ev.ite_pos e (Ev.ite_pos room f)))))))), g⟩
    · obtain ⟨l, p', s', f, g⟩ := go ⟨a1, a2, a3, wrap64 ((wrap64 (a3 + 1)) + a5), a4⟩
      exact ⟨l, p', s', Ev.step (fun k => by rw [spec_l1Cur_plan.l0]) (Ev.ite_pos (by omega) (Ev.opt_bind e1 (Ev.opt_bind e2 (Ev.opt_bind e3 (Ev.opt_bind e4 (Ev.opt_bind e5 (Ev.ite_neg e (Ev.ite_pos room f)))))))), g⟩
theorem plan_val {c : List Int} (hc : Code c) : ∃ l p s, Ev (fun k => spec_l1Cur_plan.f k c 0 0) (l, p, s) ∧ l.length ≤ 25 ∧ 0 ≤ p ∧ p ≤ 300 := by
  obtain ⟨a, p1, s1, e1, a0, a1, q1, r1⟩ := pick_val hc (p := 0) 0 10 (by omega) (by omega)
  obtain ⟨b, p2, s2, e2, q2, r2⟩ := one_val hc (p := p1) s1 20 (by omega) (by omega)
  simp only [spec_l1Cur_plan.f]
  cases b with
  | false =>
    obtain ⟨n, rfl⟩ := Int.eq_ofNat_of_zero_le a0
    obtain ⟨l, p', s', f, g1, g2, g3⟩ := plan_go hc n (by omega) [] p2 s2 (by simp; omega) (by omega) (by omega)
    exact ⟨l, p', s', Ev.opt_bind e1 (Ev.opt_bind e2 (Ev.ite_neg (by simp) (Ev.step (fun k => by rw [spec_l1Cur_plan.j0]) f))), g1, by omega, by omega⟩
  | true =>
    obtain ⟨v, p3, s3, e3, v0, v1, q3, r3⟩ := pick_val hc (p := p2) s2 2 (by omega) (by omega)
    obtain ⟨n, hn⟩ := Int.eq_ofNat_of_zero_le v0
    subst hn
    have hw : wrap64 (20 + (n : Int)) = ((20 + n : Nat) : Int) := by rw [w64 (by omega) (by omega)]; omega
    obtain ⟨l, p', s', f, g1, g2, g3⟩ := plan_go hc (20 + n) (by omega) [] p3 s3 (by simp; omega) (by omega) (by omega)
    rw [← hw] at f
    exact ⟨l, p', s', Ev.opt_bind e1 (Ev.opt_bind e2 (Ev.ite_pos rfl (Ev.opt_bind e3 (Ev.step (fun k => by rw [spec_l1Cur_plan.j0]) f)))), g1, by omega, by omega⟩
theorem earliest_val (l : List S53) (hl : l.length ≤ 1048576) (from_ at_ : Int) : ∃ (W : List Int) (b : Bool), Ev (fun k => spec_EarliestFrom.f k l from_ at_) (W, b) ∧ Ev (fun k => impl_EarliestFrom.f k l from_ at_) (W, b) ∧ W.length ≤ 8 := by
  have hs := specPlan_val l hl
  have hi := implPlan_val l
  simp only [spec_EarliestFrom.f, impl_EarliestFrom.f, impl_isWhen.f, impl_isNode.f, l6When_val, l6Node_val, within_val, Option.bind_some]
  by_cases hp : planB l = true
  case neg => exact ⟨[], false, Ev.bind hs (Ev.ite_neg hp (Ev.now _)), Ev.opt_bind hi (Ev.ite_neg hp (Ev.now _)), by simp⟩
  by_cases hf : inB from_ 0 7 = true
  case neg => exact ⟨[], false, Ev.bind hs (Ev.ite_pos hp (Ev.ite_neg hf (Ev.now _))), Ev.opt_bind hi (Ev.ite_pos hp (Ev.ite_neg hf (Ev.now _))), by simp⟩
  by_cases ha : inB at_ 0 1000 = true
  case neg => exact ⟨[], false, Ev.bind hs (Ev.ite_pos hp (Ev.ite_pos hf (Ev.ite_neg ha (Ev.now _)))), Ev.opt_bind hi (Ev.ite_pos hp (Ev.ite_pos hf (Ev.ite_neg ha (Ev.now _)))), by simp⟩
  have hf' := inB_iff.mp hf
  obtain ⟨W, L, _, hW, x, y⟩ := search_val l (planB_ok hp) from_ at_ ⟨hf'.1, by omega⟩ (inB_iff.mp ha)
  exact ⟨W, true, Ev.bind hs (Ev.ite_pos hp (Ev.ite_pos hf (Ev.ite_pos ha (Ev.bind x (Ev.now _))))), Ev.opt_bind hi (Ev.ite_pos hp (Ev.ite_pos hf (Ev.ite_pos ha (Ev.bind y (Ev.now _))))), by omega⟩
theorem earliestAt {l : List S53} {f a : Int} {W L : List Int} (hp : planB l = true) (hf : inB f 0 7 = true) (ha : inB a 0 1000 = true) (h : Ev (fun k => impl_reach.f k l f a) (W, L)) : Ev (fun k => impl_EarliestFrom.f k l f a) (W, true) := by
  have hi := implPlan_val l
  simp only [impl_EarliestFrom.f, impl_isWhen.f, impl_isNode.f, within_val, Option.bind_some]
  exact Ev.opt_bind hi (Ev.ite_pos hp (Ev.ite_pos hf (Ev.ite_pos ha (Ev.bind h (Ev.now _)))))
theorem earliest_no {l : List S53} {f a : Int} (h : ¬ (planB l = true ∧ inB f 0 7 = true ∧ inB a 0 1000 = true)) : Ev (fun k => impl_EarliestFrom.f k l f a) ([], false) := by
  have hi := implPlan_val l
  simp only [impl_EarliestFrom.f, impl_isWhen.f, impl_isNode.f, within_val, Option.bind_some]
  by_cases hp : planB l = true
  case neg => exact Ev.opt_bind hi (Ev.ite_neg hp (Ev.now _))
  by_cases hf : inB f 0 7 = true
  case neg => exact Ev.opt_bind hi (Ev.ite_pos hp (Ev.ite_neg hf (Ev.now _)))
  exact Ev.opt_bind hi (Ev.ite_pos hp (Ev.ite_pos hf (Ev.ite_neg (fun ha => h ⟨hp, hf, ha⟩) (Ev.now _))))
theorem whenTo_val {c : List Int} (hc : Code c) (p s : Int) (p0 : 0 ≤ p) (p1 : p ≤ 4611686018427300000) : ∃ a p' s', spec_l1Cur_whenTo.f c p s = some (a, p', s') := by
  obtain ⟨b, p2, s2, e2, q2, r2⟩ := one_val hc (p := p) s 20 p0 (by omega)
  unfold spec_l1Cur_whenTo.f
  rw [e2, Option.bind_some]
  cases b with
  | false =>
    obtain ⟨v, p3, s3, e3, _⟩ := pick_val hc (p := p2) s2 50 (by omega) (by omega)
    simp only
    rw [if_neg (by simp), e3]
    exact ⟨_, _, _, rfl⟩
  | true =>
    obtain ⟨v, p3, s3, e3, _⟩ := among_val hc (p := p2) s2 ([(-1), 1000, 1001] : List Int) (by decide) (by decide) (by omega) (by omega)
    simp only
    rw [if_pos trivial, e3]
    exact ⟨_, _, _, rfl⟩
theorem drawArrive {c : List Int} (hc : Code c) : ∃ (m : List S53) (st fi : Int) (o : List Int), m.length ≤ 25 ∧ o.length ≤ 8 ∧ Ev (fun k => spec_DrawArriveBy.f k c) (m, st, fi, o) := by
  obtain ⟨l, p, s, e1, hl, p0, p1⟩ := plan_val hc
  obtain ⟨o, p2, s2, e2, ho, all, q2, r2⟩ := overA_val hc l hl p s p0 (by omega)
  obtain ⟨a, p3, s3, e3, _, _, q3, r3⟩ := pick_val hc (p := p2) s2 5 q2 (by omega)
  simp only [spec_DrawArriveBy.f]
  by_cases hz : (o.length : Int) > 0
  · obtain ⟨b, p4, s4, e4, q4, r4⟩ := one_val hc (p := p3) s3 6 (by omega) (by omega)
    obtain ⟨t, p5, s5, e5, _⟩ := pick_val hc (p := p4) s4 30 (by omega) (by omega)
    cases b with
    | true => exact ⟨l, a, t, o, hl, ho, Ev.bind e1 (Ev.bind e2 (Ev.opt_bind e3 (Ev.ite_pos hz (Ev.opt_bind e4 (Ev.ite_pos rfl (Ev.opt_bind e5 (Ev.now _)))))))⟩
    | false =>
      obtain ⟨k0, k1⟩ := all 0 (by omega)
      exact ⟨l, (rd_T53 l (rd o 0)).f0, t, o, hl, ho, Ev.bind e1 (Ev.bind e2 (Ev.opt_bind e3 (Ev.ite_pos hz (Ev.opt_bind e4 (Ev.ite_neg (by simp) (Ev.ite_pos hz (Ev.ite_pos k0 (Ev.ite_pos k1 (Ev.opt_bind e5 (Ev.now _))))))))))⟩
  · obtain ⟨t, p5, s5, e5, _⟩ := pick_val hc (p := p3) s3 30 (by omega) (by omega)
    exact ⟨l, a, t, o, hl, ho, Ev.bind e1 (Ev.bind e2 (Ev.opt_bind e3 (Ev.ite_neg hz (Ev.opt_bind e5 (Ev.now _)))))⟩
theorem earliestNext {c : List Int} (hc : Code c) : Ev (fun k => laws_FnEarliest.j4 k c) true := by
  obtain ⟨m, st, fi, o, hm, ho, d⟩ := drawArrive hc
  obtain ⟨u, x, y⟩ := arriveBy_val m (by omega) st fi o (by omega)
  obtain ⟨u2, y2, z⟩ := lowBy m (by omega) st fi o (by omega)
  obtain rfl := Ev.uniq y2 y
  refine Ev.step (fun k => by rw [laws_FnEarliest.j4]) ?_
  refine Ev.bind d (Ev.bind y (Ev.bind x (Ev.ite_neg (by simp) ?_)))
  dsimp only
  rw [show (u2.1 != u2.1) = false from by simp]
  refine Ev.step (fun k => by rw [laws_FnEarliest.j5]) ?_
  refine Ev.ite_neg (by simp) (Ev.ite (fun hu => ?_) fun _ => Ev.now _)
  obtain ⟨hp, hf, ha, all, low⟩ := z hu
  have hf' := inB_iff.mp hf
  obtain ⟨W, L, F, hW, _, yr⟩ := search_val m (planB_ok hp) st fi ⟨hf'.1, by omega⟩ (inB_iff.mp ha)
  have ea := earliestAt hp hf ha yr
  obtain ⟨l0, l1⟩ := low W L F
  refine Ev.ite (fun hz => ?_) fun hz => ?_
  · have hw : wrap64 ((o.length : Int) - 1) = ((o.length - 1 : Nat) : Int) := by rw [w64 (by omega) (by omega)]; omega
    obtain ⟨k0, k1⟩ := all (o.length - 1) (by omega)
    have hx := (planB_ok hp).at_ (rd o ((o.length - 1 : Nat) : Int)).toNat (by omega)
    rw [Int.toNat_of_nonneg k0] at hx
    unfold endOf at l0 l1
    rw [if_pos (by omega)] at l0 l1
    rw [hw]
    refine Ev.ite_pos (by omega) (Ev.ite_pos (by omega) (Ev.ite_pos k0 (Ev.ite_pos k1 (Ev.bind ea (Ev.ite_pos rfl ?_)))))
    exact Ev.ite_pos hx.2.1.1 (Ev.ite_pos (show _ < (W.length : Int) by omega) (Ev.ite_neg (show ¬ rd W _ < 0 by omega) (Ev.ite_neg (show ¬ rd W _ > _ by omega) (Ev.now _))))
  · unfold endOf at l0 l1
    rw [if_neg (by omega)] at l0 l1
    refine Ev.bind ea (Ev.ite_pos rfl (Ev.ite_pos hf'.1 (Ev.ite_pos (show _ < (W.length : Int) by omega) ?_)))
    exact Ev.ite_neg (show ¬ rd W _ < 0 by omega) (Ev.ite_neg (show ¬ rd W _ > _ by omega) (Ev.now _))
theorem eachNode {c : List Int} (hc : Code c) (l : List S53) (f a : Int) (hp : planB l = true) (hf : inB f 0 7 = true) (ha : inB a 0 1000 = true) {W L : List Int} (hW : W.length = 8) (F : Found l f a W L) (y : Ev (fun k => impl_reach.f k l f a) (W, L)) (d : Nat) : ∀ i : Nat, i ≤ 8 → 8 - i = d →
    Ev (fun k => laws_FnEarliest.l1 k c l f a W (W.length : Int) (i : Int)) true := by
  induction d with
  | zero =>
    intro i h0 hd
    exact Ev.step (fun k => by rw [laws_FnEarliest.l1]) (Ev.ite_neg (by omega) (earliestNext hc))
  | succ d ih =>
    intro i h0 hd
    have hw : wrap64 ((i : Int) + 1) = ((i + 1 : Nat) : Int) := by rw [w64 (by omega) (by omega)]; omega
    have next := ih (i + 1) (by omega) (by omega)
    rw [← hw] at next
    obtain ⟨o, t, b, e, hb, z⟩ := routeW l f a (i : Int) hp hf ha ⟨by omega, by omega⟩ F y
    refine Ev.step (fun k => by rw [laws_FnEarliest.l1]) ?_
    refine Ev.ite_pos (by omega) (Ev.ite_pos (by omega) (Ev.ite_pos (by omega) (Ev.bind e ?_)))
    refine Ev.ite_neg (by rw [hb]; simp) (Ev.ite (fun h => ?_) fun _ => next)
    obtain ⟨ho, ht, hy⟩ := z h
    exact Ev.bind (wayBy l f a (i : Int) hp hf ha F o ho hy) (Ev.ite_pos ht (Ev.ite_pos rfl (Ev.ite_pos rfl next)))
theorem eachContact {c : List Int} (hc : Code c) (l : List S53) (f a : Int) (hp : planB l = true) (hf : inB f 0 7 = true) (ha : inB a 0 1000 = true) {W L : List Int} (hW : W.length = 8) (F : Found l f a W L) (y : Ev (fun k => impl_reach.f k l f a) (W, L)) (d : Nat) : ∀ i : Nat, i ≤ l.length → l.length - i = d →
    Ev (fun k => laws_FnEarliest.l0 k c l f a W l (l.length : Int) (i : Int)) true := by
  have hl := (planB_ok hp).len
  induction d with
  | zero =>
    intro i h0 hd
    have en : Ev (fun k => laws_FnEarliest.l1 k c l f a W (W.length : Int) 0) true := eachNode hc l f a hp hf ha hW F y 8 0 (by omega) (by omega)
    exact Ev.step (fun k => by rw [laws_FnEarliest.l0]) (Ev.ite_neg (by omega) en)
  | succ d ih =>
    intro i h0 hd
    have hi : i < l.length := by omega
    have hw : wrap64 ((i : Int) + 1) = ((i + 1 : Nat) : Int) := by rw [w64 (by omega) (by omega)]; omega
    have next := ih (i + 1) (by omega) (by omega)
    rw [← hw] at next
    have hx := (planB_ok hp).at_ i hi
    have st := F.still i hi
    obtain ⟨M, rk, T⟩ := F.tree
    have lo := T.low (rd_T53 l (i : Int)).f0 hx.1.1 (by omega)
    have top := T.top
    clear T
    unfold Imp arr at st
    have w1 : wrap64 ((rd_T53 l (i : Int)).f2 + (rd_T53 l (i : Int)).f4) = (rd_T53 l (i : Int)).f2 + (rd_T53 l (i : Int)).f4 := w64 (by omega) (by omega)
    have w2 : wrap64 (rd W (rd_T53 l (i : Int)).f0 + (rd_T53 l (i : Int)).f4) = rd W (rd_T53 l (i : Int)).f0 + (rd_T53 l (i : Int)).f4 := w64 (by omega) (by omega)
    have c0 : (rd_T53 l (i : Int)).f0 < (W.length : Int) := by omega
    have c1 : (rd_T53 l (i : Int)).f1 < (W.length : Int) := by omega
    have k0 := hx.1.1
    have k1 := hx.2.1.1
    have jT : Ev (fun k => laws_FnEarliest.j2 k c l f a W (rd W (rd_T53 l (i : Int)).f0) l (l.length : Int) (i : Int) true (rd_T53 l (i : Int)).f0 (rd_T53 l (i : Int)).f1 (rd_T53 l (i : Int)).f2 (rd_T53 l (i : Int)).f3 (rd_T53 l (i : Int)).f4) true := by
      refine Ev.step (fun k => by rw [laws_FnEarliest.j2]) ?_
      exact Ev.ite_pos rfl next
    refine Ev.step (fun k => by rw [laws_FnEarliest.l0]) ?_
    refine Ev.ite_pos (by omega) (Ev.ite_pos (by omega) (Ev.ite_pos (by omega) (Ev.ite_pos k0 (Ev.ite_pos c0 ?_))))
    by_cases h1 : rd W (rd_T53 l (i : Int)).f0 < 0
    · exact Ev.ite_pos h1 jT
    refine Ev.ite_neg h1 ?_
    by_cases h2 : rd W (rd_T53 l (i : Int)).f0 ≥ (rd_T53 l (i : Int)).f3
    · rw [decide_eq_true h2]; exact jT
    rw [decide_eq_false h2]
    refine Ev.step (fun k => by rw [laws_FnEarliest.j2]) ?_
    refine Ev.ite_neg (by decide) ?_
    by_cases h3 : rd W (rd_T53 l (i : Int)).f0 < (rd_T53 l (i : Int)).f2
    · rw [if_pos h3] at st
      rw [w1]
      exact Ev.ite_pos h3 (Ev.ite_pos k1 (Ev.ite_pos c1 (Ev.ite_neg (by omega) (Ev.ite_neg (by omega) next))))
    · rw [if_neg h3] at st
      rw [w2]
      exact Ev.ite_neg h3 (Ev.ite_pos k1 (Ev.ite_pos c1 (Ev.ite_neg (by omega) (Ev.ite_neg (by omega) next))))
theorem FnEarliest : Go.Proofs.Ytckndinhkkhonaa.GoalFnEarliest.Goal := by
  intro l0 l1 h0 h0' h0'' h1 h1' h1''
  refine Ev.rounds ?_
  have c0 : Code l0 := code_of h0' h0''
  have c1 : Code l1 := code_of h1' h1''
  obtain ⟨l, p, s, e1, hl, p0, p1⟩ := plan_val c0
  obtain ⟨f, p2, s2, e2, _, _, q2, r2⟩ := pick_val c0 (p := p) s 6 p0 (by omega)
  obtain ⟨a, p3, s3, e3⟩ := whenTo_val c0 p2 s2 (by omega) (by omega)
  have d0 : Ev (fun k => spec_DrawEarliestFrom.f k l0) (l, f, a) := by
    simp only [spec_DrawEarliestFrom.f]
    exact Ev.bind e1 (Ev.opt_bind e2 (Ev.opt_bind e3 (Ev.now _)))
  obtain ⟨W, b, x, y, hW8⟩ := earliest_val l (by omega) f a
  have gi := implPlan_val l
  have gs := specPlan_val l (by omega)
  have main : Ev (fun k => laws_FnEarliest.j0 k l1 l f a W b false) true := by
    refine Ev.step (fun k => by rw [laws_FnEarliest.j0]) ?_
    refine Ev.ite_neg (by decide) (Ev.ite (fun hb => ?_) fun _ => earliestNext c1)
    by_cases h : planB l = true ∧ inB f 0 7 = true ∧ inB a 0 1000 = true
    case neg =>
      have := Ev.uniq y (earliest_no h)
      rw [Prod.mk.injEq] at this
      rw [hb] at this
      exact absurd this.2 (by decide)
    obtain ⟨hp, hf, ha⟩ := h
    have hf' := inB_iff.mp hf
    obtain ⟨W2, L, F, hW, _, yr⟩ := search_val l (planB_ok hp) f a ⟨hf'.1, by omega⟩ (inB_iff.mp ha)
    have := Ev.uniq y (earliestAt hp hf ha yr)
    rw [Prod.mk.injEq] at this
    obtain ⟨rfl, _⟩ := this
    exact Ev.ite_pos hf'.1 (Ev.ite_pos (show f < (W.length : Int) by omega) (Ev.ite_pos F.root (eachContact c1 l f a hp hf ha hW F yr l.length 0 (by omega) (by omega))))
  simp only [laws_FnEarliest.f]
  refine Ev.ite (fun _ => Ev.now _) fun _ => Ev.bind d0 (Ev.bind y (Ev.bind x (Ev.ite_neg (by simp) (Ev.bind (sameInts_self W (by omega)) (Ev.ite_pos rfl (Ev.opt_bind gi (Ev.bind gs ?_)))))))
  rw [show (planB l != planB l) = false from by simp]
  exact main
end Go.Proofs.Ytckndinhkkhonaa.Pure
