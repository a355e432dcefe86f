import Derived.Test.YtckndinhkkhonaaQFnLatestx10
import Derived.Test.YtckndinhkkhonaaPlain
import Derived.Test.YtckndinhkkhonaaGoalFnLatest
set_option linter.unusedVariables false
set_option linter.unusedSimpArgs false
namespace Go.Proofs.Ytckndinhkkhonaa.Pure
open Go.RowKit Go.Proofs.Ytckndinhkkhonaa.QFnLatest Go.Proofs.YtckndinhkkhonaaW.PrintWords Go.Proofs.YtckndinhkkhonaaW.PrintLast Go.Proofs.Ytckndinhkkhonaa.Plain Go.Proofs.Ytckndinhkkhonaa.GoalFnLatest
theorem rdContact_eq (l : List S53) (i : Nat) (h : i < l.length) : rd_T53 l (i : Int) = l[i] := by
  simp [rd_T53, List.getD_eq_getElem?_getD, List.getElem?_eq_getElem h]
def planB (l : List S53) : Bool := decide ((l.length : Int) ≤ 20) && !l.any badC
theorem l6Node_val (n : Int) : spec_l6Node.f n = some (inB n 0 7) := by
  unfold spec_l6Node.f inB
  by_cases h : n ≥ 0
  · rw [if_pos h]; simp only [show (0 : Int) ≤ n from h, decide_true, Bool.true_and]; congr 1; exact decide_eq_decide.mpr (by omega)
  · rw [if_neg h]; simp only [show ¬ (0 : Int) ≤ n from h, decide_false, Bool.false_and]
theorem l1In_val (n a b : Int) : spec_l1In.f n a b = some (inB n a b) := by
  unfold spec_l1In.f inB
  by_cases h : n ≥ a
  · rw [if_pos h]; simp only [show a ≤ n from h, decide_true, Bool.true_and]
  · rw [if_neg h]; simp only [show ¬ a ≤ n from h, decide_false, Bool.false_and]
theorem l6When_val (n : Int) : spec_l6When.f n = some (inB n 0 1000) := by
  unfold spec_l6When.f
  rw [l1In_val]; rfl
theorem badC_iff (x : S53) : badC x = false ↔ inB x.f0 0 7 = true ∧ inB x.f1 0 7 = true ∧ x.f0 ≠ x.f1 ∧ inB x.f3 0 1000 = true ∧ ¬ x.f2 < 0 ∧ ¬ x.f2 ≥ x.f3 ∧ inB x.f4 0 100 = true := by
  simp only [badC, unlikeB, inB, Bool.or_eq_false_iff, Bool.not_eq_false', Bool.and_eq_true, decide_eq_true_eq, decide_eq_false_iff_not, ne_eq]
  omega
theorem goodPlan_go (l : List S53) (hl : l.length ≤ 1048576) (d : Nat) : ∀ i : Nat, i ≤ l.length → l.length - i = d → (l.take i).any badC = false → Ev (fun k => spec_GoodPlan.l0 k l l (l.length : Int) (i : Int)) (planB l) := by
  induction d with
  | zero =>
    intro i h0 hd hb
    refine Ev.step (fun k => by rw [spec_GoodPlan.l0]) ?_
    obtain rfl : i = l.length := by omega
    rw [List.take_length] at hb
    exact Ev.ite_neg (by omega) (Ev.now' (by rw [planB, hb]; simp))
  | succ d ih =>
    intro i h0 hd hb
    have hi : i < l.length := by omega
    have hw : wrap64 ((i : Int) + 1) = ((i + 1 : Nat) : Int) := by rw [w64 (by omega) (by omega)]; omega
    refine Ev.step (fun k => by rw [spec_GoodPlan.l0]) ?_
    refine Ev.ite_pos (by omega) (Ev.ite_pos (by omega) (Ev.ite_pos (by omega) ?_))
    simp only [rdContact_eq l i hi, l6Node_val, l6When_val, l1In_val, Option.bind_some, hw]
    have hm : l[i] ∈ l := List.getElem_mem hi
    have bad : badC l[i] = true → planB l = false := fun h => by
      rw [planB, List.any_eq_true.mpr ⟨_, hm, h⟩]; simp
    have ht : badC l[i] = false → (l.take (i + 1)).any badC = false := fun h => by
      rw [List.take_succ_eq_append_getElem hi, List.any_append, hb]; simp [h]
    have next := fun h => ih (i + 1) (by omega) (by omega) (ht h)
    have key := badC_iff l[i]
    generalize l[i] = x at bad next key
    cases hq : badC x with
    | true =>
      rw [bad hq]
      have hk : ¬ (inB x.f0 0 7 = true ∧ inB x.f1 0 7 = true ∧ x.f0 ≠ x.f1 ∧ inB x.f3 0 1000 = true ∧ ¬ x.f2 < 0 ∧ ¬ x.f2 ≥ x.f3 ∧ inB x.f4 0 100 = true) := fun h => by rw [key.mpr h] at hq; cases hq
      refine Ev.ite (fun a1 => Ev.ite (fun a2 => Ev.ite (fun a3 => Ev.now _) fun a3 => Ev.ite (fun a4 => Ev.ite (fun a5 => Ev.now _) fun a5 => Ev.ite (fun a6 => Ev.now _) fun a6 => Ev.ite (fun a7 => absurd ⟨a1, a2, a3, a4, a5, a6, a7⟩ hk) fun a7 => Ev.now _) fun a4 => Ev.now _) fun a2 => Ev.now _) fun a1 => Ev.now _
    | false =>
      obtain ⟨a1, a2, a3, a4, a5, a6, a7⟩ := key.mp hq
      exact Ev.ite_pos a1 (Ev.ite_pos a2 (Ev.ite_neg a3 (Ev.ite_pos a4 (Ev.ite_neg a5 (Ev.ite_neg a6 (Ev.ite_pos a7 (next hq)))))))
theorem specPlan_val (l : List S53) (hl : l.length ≤ 1048576) : Ev (fun k => spec_GoodPlan.f k l) (planB l) := by
  simp only [spec_GoodPlan.f]
  exact goodPlan_go l hl l.length 0 (by omega) (by omega) (by simp)
theorem implPlan_val (l : List S53) : impl_GoodPlan.f l = some (planB l) := rfl
structure PlanOk (l : List S53) : Prop where
  len : l.length ≤ 20
  at_ : ∀ i : Nat, i < l.length → (0 ≤ (rd_T53 l (i : Int)).f0 ∧ (rd_T53 l (i : Int)).f0 ≤ 7) ∧ (0 ≤ (rd_T53 l (i : Int)).f1 ∧ (rd_T53 l (i : Int)).f1 ≤ 7) ∧ (rd_T53 l (i : Int)).f0 ≠ (rd_T53 l (i : Int)).f1 ∧ (0 ≤ (rd_T53 l (i : Int)).f2 ∧ (rd_T53 l (i : Int)).f2 < (rd_T53 l (i : Int)).f3 ∧ (rd_T53 l (i : Int)).f3 ≤ 1000) ∧ (0 ≤ (rd_T53 l (i : Int)).f4 ∧ (rd_T53 l (i : Int)).f4 ≤ 100)
theorem inB_iff {a b c : Int} : inB a b c = true ↔ b ≤ a ∧ a ≤ c := by simp [inB]
theorem planB_ok {l : List S53} (h : planB l = true) : PlanOk l := by
  unfold planB at h
  rw [Bool.and_eq_true] at h
  obtain ⟨h0, h1⟩ := h
  have h0 := of_decide_eq_true h0
  refine ⟨by omega, fun i hi => ?_⟩
  rw [rdContact_eq l i hi]
  have hb : badC l[i] = false := by
    cases hq : badC l[i] with
    | false => rfl
    | true => rw [List.any_eq_true.mpr ⟨_, List.getElem_mem hi, hq⟩] at h1; exact absurd h1 (by decide)
  obtain ⟨a1, a2, a3, a4, a5, a6, a7⟩ := (badC_iff _).mp hb
  rw [inB_iff] at a1 a2 a4 a7
  exact ⟨a1, a2, a3, ⟨by omega, by omega, a4.2⟩, a7⟩
theorem within_val (a b c : Int) : impl_within.f a b c = some (inB a b c) := by
  unfold impl_within.f inB
  by_cases h : b ≤ a
  · rw [if_pos h]; simp only [h, decide_true, Bool.true_and]
  · rw [if_neg h]; simp only [h, decide_false, Bool.false_and]
theorem rd_set_if (W : List Int) (v u x : Int) (h0 : 0 ≤ v) (h1 : v < (W.length : Int)) (h2 : 0 ≤ u) : rd (W.set v.toNat x) u = if u = v then x else rd W u := by
  obtain ⟨a, rfl⟩ := Int.eq_ofNat_of_zero_le h0
  obtain ⟨b, rfl⟩ := Int.eq_ofNat_of_zero_le h2
  simp only [Int.toNat_natCast]
  by_cases e : (b : Int) = (a : Int)
  · rw [if_pos e]
    obtain rfl : b = a := by omega
    exact rd_set_same W b (by omega) x
  · rw [if_neg e]
    exact rd_set_ne W a b (by omega) x
def arr (W : List Int) (x : S53) : Int := (if rd W x.f0 < x.f2 then x.f2 else rd W x.f0) + x.f4
def Imp (W : List Int) (x : S53) : Prop := 0 ≤ rd W x.f0 ∧ rd W x.f0 < x.f3 ∧ (rd W x.f1 < 0 ∨ arr W x < rd W x.f1)
structure Scan (l : List S53) (W : List Int) (i : Nat) (b t : Int) : Prop where
  sign : b = -1 ∨ 0 ≤ b
  best : 0 ≤ b → b < (i : Int) ∧ Imp W (rd_T53 l b) ∧ t = arr W (rd_T53 l b)
  least : ∀ j : Nat, j < i → Imp W (rd_T53 l (j : Int)) → 0 ≤ b ∧ t ≤ arr W (rd_T53 l (j : Int))
theorem Scan.keep {l : List S53} {W : List Int} {i : Nat} {b t : Int} (h : Scan l W i b t) (hi : Imp W (rd_T53 l (i : Int)) → 0 ≤ b ∧ t ≤ arr W (rd_T53 l (i : Int))) : Scan l W (i + 1) b t :=
  ⟨h.sign, fun hb => by obtain ⟨a, c⟩ := h.best hb; exact ⟨by omega, c⟩, fun j hj => by
    rcases Nat.lt_or_ge j i with h1 | h1
    · exact h.least j h1
    · obtain rfl : j = i := by omega
      exact hi⟩
theorem Scan.take {l : List S53} {W : List Int} {i : Nat} {b t : Int} (h : Scan l W i b t) (hi : Imp W (rd_T53 l (i : Int))) (hb : b < 0 ∨ arr W (rd_T53 l (i : Int)) < t) : Scan l W (i + 1) (i : Int) (arr W (rd_T53 l (i : Int))) :=
  ⟨.inr (by omega), fun _ => ⟨by omega, hi, rfl⟩, fun j hj hj2 => by
    refine ⟨by omega, ?_⟩
    rcases Nat.lt_or_ge j i with h1 | h1
    · obtain ⟨p, q⟩ := h.least j h1 hj2
      rcases hb with hb | hb
      · omega
      · omega
    · obtain rfl : j = i := by omega
      exact Int.le_refl _⟩
theorem arr_bd {x : S53} {W : List Int} (h : (0 ≤ x.f2 ∧ x.f2 < x.f3 ∧ x.f3 ≤ 1000) ∧ (0 ≤ x.f4 ∧ x.f4 ≤ 100)) (h0 : 0 ≤ rd W x.f0) (h1 : rd W x.f0 < x.f3) : 0 ≤ arr W x ∧ arr W x ≤ 1100 ∧ rd W x.f0 ≤ arr W x := by
  unfold arr
  by_cases c : rd W x.f0 < x.f2
  · rw [if_pos c]; omega
  · rw [if_neg c]; omega
theorem over_val {x : S53} {W : List Int} (h : (0 ≤ x.f2 ∧ x.f2 < x.f3 ∧ x.f3 ≤ 1000) ∧ (0 ≤ x.f4 ∧ x.f4 ≤ 100)) (h0 : 0 ≤ rd W x.f0) (hm : rd W x.f0 ≤ 2000) :
    spec_l6Over.f x.f0 x.f1 x.f2 x.f3 x.f4 (rd W x.f0) = some (if rd W x.f0 < x.f3 then arr W x else -1) ∧ impl_Contact_by.f x.f0 x.f1 x.f2 x.f3 x.f4 (rd W x.f0) = some (arr W x, decide (rd W x.f0 < x.f3)) := by
  obtain ⟨⟨a0, a1, a2⟩, b0, b1⟩ := h
  have w1 : wrap64 (x.f2 + x.f4) = x.f2 + x.f4 := w64 (by omega) (by omega)
  have w2 : wrap64 (rd W x.f0 + x.f4) = rd W x.f0 + x.f4 := w64 (by omega) (by omega)
  unfold spec_l6Over.f impl_Contact_by.f mx arr
  by_cases c : rd W x.f0 < x.f3
  · rw [if_neg (show ¬ rd W x.f0 ≥ x.f3 by omega), if_pos c]
    by_cases c2 : rd W x.f0 < x.f2
    · refine ⟨?_, ?_⟩ <;> simp only [if_pos c2, w1, decide_eq_true a1, decide_eq_true c]
    · refine ⟨?_, ?_⟩ <;> simp only [if_neg c2, w2]
  · rw [if_pos (show rd W x.f0 ≥ x.f3 by omega), if_neg c, if_neg (show ¬ rd W x.f0 < x.f2 by omega), w2]
    exact ⟨rfl, rfl⟩
section
variable {l : List S53} {W L : List Int}
theorem scan_step (hp : PlanOk l) (hW : W.length = 8) (hb : ∀ n : Int, 0 ≤ n → n < 8 → rd W n ≤ 2000) (i : Nat) (hi : i < l.length) (b t : Int) (hs : Scan l W i b t) :
    ∃ b2 t2, Scan l W (i + 1) b2 t2 ∧ (∀ r, Ev (fun k => spec_l6Search.l2 k l W L b2 t2 l (l.length : Int) ((i + 1 : Nat) : Int)) r → Ev (fun k => spec_l6Search.l2 k l W L b t l (l.length : Int) (i : Int)) r) ∧
      (∀ r, Ev (fun k => impl_reach.l1 k l W L b2 t2 l (l.length : Int) ((i + 1 : Nat) : Int)) r → Ev (fun k => impl_reach.l1 k l W L b t l (l.length : Int) (i : Int)) r) := by
  have h20 := hp.len
  have hw : wrap64 ((i : Int) + 1) = ((i + 1 : Nat) : Int) := by rw [w64 (by omega) (by omega)]; omega
  obtain ⟨⟨a0, a1⟩, ⟨b0, b1⟩, _, hx⟩ := hp.at_ i hi
  have openS : ∀ {r}, _ → Ev (fun k => spec_l6Search.l2 k l W L b t l (l.length : Int) (i : Int)) r := fun {r} h => Ev.step (r := r) (fun k => by rw [spec_l6Search.l2]) (Ev.ite_pos (by omega) (Ev.ite_pos (by omega) (Ev.ite_pos (by omega) (Ev.ite_pos a0 (Ev.ite_pos (by omega) h)))))
  have openI : ∀ {r}, _ → Ev (fun k => impl_reach.l1 k l W L b t l (l.length : Int) (i : Int)) r := fun {r} h => Ev.step (r := r) (fun k => by rw [impl_reach.l1]) (Ev.ite_pos (by omega) (Ev.ite_pos (by omega) (Ev.ite_pos (by omega) (Ev.ite_pos a0 (Ev.ite_pos (by omega) h)))))
  by_cases c0 : rd W (rd_T53 l (i : Int)).f0 < 0
  · refine ⟨b, t, hs.keep (fun h => absurd h.1 (by omega)), fun r h => openS (Ev.ite_pos c0 ?_), fun r h => openI (Ev.ite_pos c0 ?_)⟩
    · rw [hw]; exact h
    · rw [hw]; exact h
  obtain ⟨e1, e2⟩ := over_val (W := W) hx (by omega) (hb _ a0 (by omega))
  by_cases c1 : rd W (rd_T53 l (i : Int)).f0 < (rd_T53 l (i : Int)).f3
  case neg =>
    rw [if_neg c1] at e1
    rw [decide_eq_false c1] at e2
    refine ⟨b, t, hs.keep (fun h => absurd h.2.1 c1), fun r h => openS (Ev.ite_neg c0 (Ev.opt_bind e1 (Ev.ite_pos (by omega) ?_))), fun r h => openI (Ev.ite_neg c0 (Ev.opt_bind e2 (Ev.ite_neg (by simp) ?_)))⟩
    · refine Ev.step (fun k => by rw [spec_l6Search.j3]) ?_
      rw [hw]
      exact Ev.ite_pos rfl h
    · rw [hw]; exact h
  rw [if_pos c1] at e1
  rw [decide_eq_true c1] at e2
  obtain ⟨v0, v1, _⟩ := arr_bd (W := W) hx (by omega) c1
  have goS : ∀ {r} (q : Bool), (rd W (rd_T53 l (i : Int)).f1 ≥ 0 → decide (rd W (rd_T53 l (i : Int)).f1 ≤ arr W (rd_T53 l (i : Int))) = q) → (¬ rd W (rd_T53 l (i : Int)).f1 ≥ 0 → false = q) → Ev (fun k => spec_l6Search.j3 k l W L b t (i : Int) (arr W (rd_T53 l (i : Int))) l (l.length : Int) (i : Int) q) r → Ev (fun k => spec_l6Search.l2 k l W L b t l (l.length : Int) (i : Int)) r := fun {r} q q1 q2 h =>
    openS (Ev.ite_neg c0 (Ev.opt_bind e1 (Ev.ite_neg (by omega) (Ev.ite_pos b0 (Ev.ite_pos (by omega) (Ev.ite (fun c => by rw [q1 c]; exact h) (fun c => by have := q2 c; subst this; exact h)))))))
  by_cases ci : Imp W (rd_T53 l (i : Int))
  case neg =>
    have cc : 0 ≤ rd W (rd_T53 l (i : Int)).f1 ∧ rd W (rd_T53 l (i : Int)).f1 ≤ arr W (rd_T53 l (i : Int)) := by
      refine ⟨?_, ?_⟩
      · rcases Int.lt_or_le (rd W (rd_T53 l (i : Int)).f1) 0 with h | h
        · exact absurd ⟨by omega, c1, .inl h⟩ ci
        · exact h
      · rcases Int.lt_or_le (arr W (rd_T53 l (i : Int))) (rd W (rd_T53 l (i : Int)).f1) with h | h
        · exact absurd ⟨by omega, c1, .inr h⟩ ci
        · exact h
    refine ⟨b, t, hs.keep (fun h => absurd h ci), fun r h => goS true (fun _ => decide_eq_true cc.2) (fun c => absurd cc.1 c) ?_, fun r h => openI (Ev.ite_neg c0 (Ev.opt_bind e2 (Ev.ite_pos rfl (Ev.ite_pos b0 (Ev.ite_pos (by omega) (Ev.ite_neg (by omega) (Ev.ite_neg ?_ ?_)))))))⟩
    · refine Ev.step (fun k => by rw [spec_l6Search.j3]) ?_
      rw [hw]
      exact Ev.ite_pos rfl h
    · have := cc.2; show ¬ arr W (rd_T53 l (i : Int)) < rd W (rd_T53 l (i : Int)).f1; omega
    · rw [hw]; exact h
  have n1 : rd W (rd_T53 l (i : Int)).f1 ≥ 0 → ¬ rd W (rd_T53 l (i : Int)).f1 ≤ arr W (rd_T53 l (i : Int)) := fun h => by rcases ci.2.2 with h2 | h2 <;> omega
  have goI : ∀ {r}, (Ev (fun k => if b < 0 then impl_reach.l1 k l W L (i : Int) (arr W (rd_T53 l (i : Int))) l (l.length : Int) (wrap64 ((i : Int) + 1)) else if arr W (rd_T53 l (i : Int)) < t then impl_reach.l1 k l W L (i : Int) (arr W (rd_T53 l (i : Int))) l (l.length : Int) (wrap64 ((i : Int) + 1)) else impl_reach.l1 k l W L b t l (l.length : Int) (wrap64 ((i : Int) + 1))) r) → Ev (fun k => impl_reach.l1 k l W L b t l (l.length : Int) (i : Int)) r := fun {r} h =>
    openI (Ev.ite_neg c0 (Ev.opt_bind e2 (Ev.ite_pos rfl (Ev.ite_pos b0 (Ev.ite_pos (by omega) (Ev.ite (fun _ => h) (fun c => Ev.ite_pos (by have := n1 (by omega); show arr W (rd_T53 l (i : Int)) < rd W (rd_T53 l (i : Int)).f1; omega) h)))))))
  by_cases cb : b < 0 ∨ arr W (rd_T53 l (i : Int)) < t
  · refine ⟨_, _, hs.take ci cb, fun r h => goS false (fun c => decide_eq_false (n1 c)) (fun _ => rfl) ?_, fun r h => goI ?_⟩
    · refine Ev.step (fun k => by rw [spec_l6Search.j3]) ?_
      rw [hw]
      exact Ev.ite_neg (by decide) (Ev.ite (fun _ => h) (fun c => Ev.ite_pos (by omega) h))
    · rw [hw]
      exact Ev.ite (fun _ => h) (fun c => Ev.ite_pos (by omega) h)
  · refine ⟨b, t, hs.keep (fun _ => by omega), fun r h => goS false (fun c => decide_eq_false (n1 c)) (fun _ => rfl) ?_, fun r h => goI ?_⟩
    · refine Ev.step (fun k => by rw [spec_l6Search.j3]) ?_
      rw [hw]
      exact Ev.ite_neg (by decide) (Ev.ite_neg (by omega) (Ev.ite_neg (by omega) h))
    · rw [hw]
      exact Ev.ite_neg (by omega) (Ev.ite_neg (by omega) h)
theorem scan_all (hp : PlanOk l) (hW : W.length = 8) (hb : ∀ n : Int, 0 ≤ n → n < 8 → rd W n ≤ 2000) (d : Nat) : ∀ (i : Nat) (b t : Int), i ≤ l.length → l.length - i = d → Scan l W i b t →
    ∃ b2 t2, Scan l W l.length b2 t2 ∧ (∀ r, Ev (fun k => spec_l6Search.l2 k l W L b2 t2 l (l.length : Int) (l.length : Int)) r → Ev (fun k => spec_l6Search.l2 k l W L b t l (l.length : Int) (i : Int)) r) ∧
      (∀ r, Ev (fun k => impl_reach.l1 k l W L b2 t2 l (l.length : Int) (l.length : Int)) r → Ev (fun k => impl_reach.l1 k l W L b t l (l.length : Int) (i : Int)) r) := by
  induction d with
  | zero =>
    intro i b t h0 hd hs
    obtain rfl : i = l.length := by omega
    exact ⟨b, t, hs, fun _ h => h, fun _ h => h⟩
  | succ d ih =>
    intro i b t h0 hd hs
    obtain ⟨b1, t1, s1, x1, y1⟩ := scan_step (L := L) hp hW hb i (by omega) b t hs
    obtain ⟨b2, t2, s2, x2, y2⟩ := ih (i + 1) b1 t1 (by omega) (by omega) s1
    exact ⟨b2, t2, s2, fun r h => x1 r (x2 r h), fun r h => y1 r (y2 r h)⟩
def unset (W : List Int) : Nat := W.countP (fun x => decide (x < 0))
structure Tree (l : List S53) (from_ : Int) (W L : List Int) (M : Int) (rk : Int → Nat) : Prop where
  lenW : W.length = 8
  lenL : L.length = 8
  top : 0 ≤ M ∧ M ≤ 1100
  low : ∀ n : Int, 0 ≤ n → n < 8 → -1 ≤ rd W n ∧ rd W n ≤ M
  root : 0 ≤ rd W from_
  late : ∀ j : Nat, j < l.length → Imp W (rd_T53 l (j : Int)) → M ≤ arr W (rd_T53 l (j : Int))
  up : ∀ n : Int, 0 ≤ n → n < 8 → n ≠ from_ → 0 ≤ rd W n → 0 ≤ rd L n ∧ rd L n < (l.length : Int) ∧ (rd_T53 l (rd L n)).f1 = n ∧ 0 ≤ rd W (rd_T53 l (rd L n)).f0 ∧ rk (rd_T53 l (rd L n)).f0 < rk n ∧ rd W (rd_T53 l (rd L n)).f0 < (rd_T53 l (rd L n)).f3 ∧ rd W n = arr W (rd_T53 l (rd L n))
  rank : ∀ n : Int, 0 ≤ n → n < 8 → 0 ≤ rd W n → rk n + unset W < 8
theorem unset_set (hW : W.length = 8) (v x : Int) (h0 : 0 ≤ v) (h1 : v < 8) (hv : rd W v < 0) (hx : 0 ≤ x) : unset (W.set v.toNat x) + 1 = unset W := by
  obtain ⟨a, rfl⟩ := Int.eq_ofNat_of_zero_le h0
  have ha : a < W.length := by omega
  rw [rd_eq W a ha] at hv
  unfold unset
  rw [Int.toNat_natCast, List.countP_set ha]
  have hpos : 0 < W.countP (fun x => decide (x < 0)) := List.countP_pos_iff.mpr ⟨W[a], List.getElem_mem ha, decide_eq_true hv⟩
  rw [if_pos (decide_eq_true hv), if_neg (by simp; omega)]
  omega
theorem Tree.step {from_ M : Int} {rk : Int → Nat} (hp : PlanOk l) (hf : 0 ≤ from_ ∧ from_ < 8) (T : Tree l from_ W L M rk) {b t : Int} (hb : 0 ≤ b) (hbl : b < (l.length : Int)) (hi : Imp W (rd_T53 l b)) (ht : t = arr W (rd_T53 l b))
    (least : ∀ j : Nat, j < l.length → Imp W (rd_T53 l (j : Int)) → t ≤ arr W (rd_T53 l (j : Int))) :
    (0 ≤ (rd_T53 l b).f1 ∧ (rd_T53 l b).f1 < 8) ∧ rd W (rd_T53 l b).f1 < 0 ∧ 0 ≤ t ∧ ∃ rk', Tree l from_ (W.set ((rd_T53 l b).f1).toNat t) (L.set ((rd_T53 l b).f1).toNat b) t rk' := by
  obtain ⟨m, rfl⟩ := Int.eq_ofNat_of_zero_le hb
  obtain ⟨⟨a0, a1⟩, ⟨b0, b1⟩, ne, hx⟩ := hp.at_ m (by omega)
  obtain ⟨v0, v1, v2⟩ := arr_bd (W := W) hx hi.1 hi.2.1
  have hM : M ≤ t := by rw [ht]; exact T.late m (by omega) hi
  have hv : rd W (rd_T53 l (m : Int)).f1 < 0 := by
    rcases hi.2.2 with h | h
    · exact h
    · have := (T.low (rd_T53 l (m : Int)).f1 b0 (by omega)).2; omega
  have ht0 : 0 ≤ t := by omega
  have hne : from_ ≠ (rd_T53 l (m : Int)).f1 := fun e => by have := T.root; rw [e] at this; omega
  have rW : ∀ n : Int, 0 ≤ n → rd (W.set ((rd_T53 l (m : Int)).f1).toNat t) n = if n = (rd_T53 l (m : Int)).f1 then t else rd W n := fun n hn => rd_set_if W _ n t b0 (by rw [T.lenW]; omega) hn
  have rL : ∀ n : Int, 0 ≤ n → rd (L.set ((rd_T53 l (m : Int)).f1).toNat (m : Int)) n = if n = (rd_T53 l (m : Int)).f1 then (m : Int) else rd L n := fun n hn => rd_set_if L _ n m b0 (by rw [T.lenL]; omega) hn
  refine ⟨⟨b0, by omega⟩, hv, ht0, fun n => if n = (rd_T53 l (m : Int)).f1 then 7 - unset (W.set ((rd_T53 l (m : Int)).f1).toNat t) else rk n, ?_⟩
  have hu := unset_set (W := W) T.lenW _ t b0 (by omega) hv ht0
  have hr0 := T.rank (rd_T53 l (m : Int)).f0 a0 (by omega) hi.1
  -- a contact of the new tree
  have arr_same : ∀ x : S53, 0 ≤ x.f0 → x.f0 ≠ (rd_T53 l (m : Int)).f1 → arr (W.set ((rd_T53 l (m : Int)).f1).toNat t) x = arr W x := fun x h0 h => by
    unfold arr
    rw [rW _ h0, if_neg h]
  refine ⟨by rw [List.length_set]; exact T.lenW, by rw [List.length_set]; exact T.lenL, ⟨ht0, by omega⟩, fun n h0 h1 => ?_, ?_, fun j hj hj2 => ?_, fun n h0 h1 hnf hn => ?_, fun n h0 h1 hn => ?_⟩
  · rw [rW n h0]
    by_cases e : n = (rd_T53 l (m : Int)).f1
    · rw [if_pos e]; omega
    · rw [if_neg e]; have := T.low n h0 h1; omega
  · rw [rW _ hf.1, if_neg hne]; exact T.root
  · obtain ⟨⟨p0, p1⟩, ⟨q0, q1⟩, _, hy⟩ := hp.at_ j hj
    by_cases e : (rd_T53 l (j : Int)).f0 = (rd_T53 l (m : Int)).f1
    · have h0 := hj2.1
      have h1 := hj2.2.1
      obtain ⟨_, _, z⟩ := arr_bd (W := W.set ((rd_T53 l (m : Int)).f1).toNat t) hy h0 h1
      rw [rW _ p0, if_pos e] at z
      exact z
    · rw [arr_same _ p0 e]
      refine least j hj ?_
      obtain ⟨i0, i1, i2⟩ := hj2
      rw [arr_same _ p0 e] at i2
      rw [rW _ p0, if_neg e] at i0 i1
      rw [rW _ q0] at i2
      refine ⟨i0, i1, ?_⟩
      by_cases e2 : (rd_T53 l (j : Int)).f1 = (rd_T53 l (m : Int)).f1
      · rw [e2]; exact .inl hv
      · rw [if_neg e2] at i2; exact i2
  · rw [rW n h0] at hn
    rw [rL n h0]
    by_cases e : n = (rd_T53 l (m : Int)).f1
    · rw [if_pos e]
      simp only [rW _ a0, rW n h0, if_neg ne, if_pos e, arr_same _ a0 ne]
      exact ⟨hb, hbl, e.symm, hi.1, by omega, hi.2.1, ht⟩
    · rw [if_neg e]
      rw [if_neg e] at hn
      obtain ⟨k0, k1, k2, k3, k4, k5, k6⟩ := T.up n h0 h1 hnf hn
      have hk := hp.at_ (rd L n).toNat (by omega)
      rw [Int.toNat_of_nonneg k0] at hk
      have hne2 : (rd_T53 l (rd L n)).f0 ≠ (rd_T53 l (m : Int)).f1 := fun e2 => by rw [e2] at k3; omega
      simp only [rW _ hk.1.1, if_neg hne2, rW n h0, if_neg e, arr_same _ hk.1.1 hne2]
      exact ⟨k0, k1, k2, k3, k4, k5, k6⟩
  · rw [rW n h0] at hn
    by_cases e : n = (rd_T53 l (m : Int)).f1
    · show (if n = (rd_T53 l (m : Int)).f1 then 7 - unset (W.set ((rd_T53 l (m : Int)).f1).toNat t) else rk n) + _ < 8
      rw [if_pos e]; omega
    · rw [if_neg e] at hn
      show (if n = (rd_T53 l (m : Int)).f1 then 7 - unset (W.set ((rd_T53 l (m : Int)).f1).toNat t) else rk n) + _ < 8
      rw [if_neg e]
      have := T.rank n h0 h1 hn; omega
theorem reach_go (hp : PlanOk l) {from_ : Int} (hf : 0 ≤ from_ ∧ from_ < 8) (u : Nat) : ∀ (W L : List Int) (M : Int) (rk : Int → Nat), unset W ≤ u → Tree l from_ W L M rk →
    ∃ (W' L' : List Int) (M' : Int) (rk' : Int → Nat), Tree l from_ W' L' M' rk' ∧ (∀ j : Nat, j < l.length → ¬ Imp W' (rd_T53 l (j : Int))) ∧ rd W' from_ = rd W from_ ∧
      Ev (fun k => spec_l6Search.l1 k l W L) (W', L') ∧ Ev (fun k => impl_reach.l0 k l W L) (W', L') := by
  induction u with
  | zero =>
    intro W L M rk hu T
    obtain ⟨b, t, hs, x, y⟩ := scan_all (L := L) hp T.lenW (fun n h0 h1 => by have := (T.low n h0 h1).2; have := T.top.2; omega) l.length 0 (-1) 0 (by omega) (by omega) ⟨.inl rfl, fun h => absurd h (by decide), fun j hj => by omega⟩
    by_cases hb : b < 0
    · refine ⟨W, L, M, rk, T, fun j hj hi => by have := (hs.least j hj hi).1; omega, rfl, Ev.step (fun k => by rw [spec_l6Search.l1]; rfl) (x _ ?_), Ev.step (fun k => by rw [impl_reach.l0]; rfl) (y _ ?_)⟩
      · exact Ev.step (fun k => by rw [spec_l6Search.l2]) (Ev.ite_neg (by omega) (Ev.ite_pos hb (Ev.now _)))
      · exact Ev.step (fun k => by rw [impl_reach.l1]) (Ev.ite_neg (by omega) (Ev.ite_pos hb (Ev.now _)))
    · obtain ⟨b1, bi, bt⟩ := hs.best (by omega)
      obtain ⟨⟨f0, f1⟩, hv, ht0, rk', T'⟩ := T.step hp hf (by omega) b1 bi bt (fun j hj hi => (hs.least j hj hi).2)
      have := unset_set T.lenW _ t f0 f1 hv ht0
      omega
  | succ u ih =>
    intro W L M rk hu T
    obtain ⟨b, t, hs, x, y⟩ := scan_all (L := L) hp T.lenW (fun n h0 h1 => by have := (T.low n h0 h1).2; have := T.top.2; omega) l.length 0 (-1) 0 (by omega) (by omega) ⟨.inl rfl, fun h => absurd h (by decide), fun j hj => by omega⟩
    by_cases hb : b < 0
    · refine ⟨W, L, M, rk, T, fun j hj hi => by have := (hs.least j hj hi).1; omega, rfl, Ev.step (fun k => by rw [spec_l6Search.l1]; rfl) (x _ ?_), Ev.step (fun k => by rw [impl_reach.l0]; rfl) (y _ ?_)⟩
      · exact Ev.step (fun k => by rw [spec_l6Search.l2]) (Ev.ite_neg (by omega) (Ev.ite_pos hb (Ev.now _)))
      · exact Ev.step (fun k => by rw [impl_reach.l1]) (Ev.ite_neg (by omega) (Ev.ite_pos hb (Ev.now _)))
    · obtain ⟨b1, bi, bt⟩ := hs.best (by omega)
      obtain ⟨⟨f0, f1⟩, hv, ht0, rk', T'⟩ := T.step hp hf (by omega) b1 bi bt (fun j hj hi => (hs.least j hj hi).2)
      have hu2 := unset_set T.lenW _ t f0 f1 hv ht0
      obtain ⟨W', L', M', rk2, T2, fin, e, p, q⟩ := ih _ _ _ _ (by omega) T'
      have hne : from_ ≠ (rd_T53 l b).f1 := fun e => by have := T.root; rw [e] at this; omega
      rw [rd_set_if W _ _ t f0 (by rw [T.lenW]; exact f1) hf.1, if_neg hne] at e
      refine ⟨W', L', M', rk2, T2, fin, e, Ev.step (fun k => by rw [spec_l6Search.l1]; rfl) (x _ ?_), Ev.step (fun k => by rw [impl_reach.l0]; rfl) (y _ ?_)⟩
      · exact Ev.step (fun k => by rw [spec_l6Search.l2]) (Ev.ite_neg (by omega) (Ev.ite_neg hb (Ev.ite_pos (by omega) (Ev.ite_pos b1 (Ev.ite_pos f0 (Ev.ite_pos (by rw [T.lenW]; exact f1) (Ev.ite_pos (by rw [T.lenL]; exact f1) p)))))))
      · exact Ev.step (fun k => by rw [impl_reach.l1]) (Ev.ite_neg (by omega) (Ev.ite_neg hb (Ev.ite_pos (by omega) (Ev.ite_pos b1 (Ev.ite_pos f0 (Ev.ite_pos (by rw [T.lenW]; exact f1) (Ev.ite_pos (by rw [T.lenL]; exact f1) q)))))))
end
structure Found (l : List S53) (from_ at_ : Int) (W L : List Int) : Prop where
  tree : ∃ M rk, Tree l from_ W L M rk
  still : ∀ j : Nat, j < l.length → ¬ Imp W (rd_T53 l (j : Int))
  root : rd W from_ = at_
theorem fill8 (l : List S53) (from_ at_ : Int) (d : Nat) : ∀ (i : Nat) (r : List Int × List Int), i ≤ 8 → 8 - i = d → (0 ≤ from_ ∧ from_ < 8) →
    Ev (fun k => spec_l6Search.l1 k l ((List.replicate 8 (-1)).set from_.toNat at_) (List.replicate 8 (-1))) r → Ev (fun k => spec_l6Search.l0 k l from_ at_ (List.replicate i (-1)) (List.replicate i (-1)) (i : Int)) r := by
  induction d with
  | zero =>
    intro i r h0 hd hf h
    obtain rfl : i = 8 := by omega
    exact Ev.step (fun k => by rw [spec_l6Search.l0]) (Ev.ite_neg (by omega) (Ev.ite_pos hf.1 (Ev.ite_pos (by simp; omega) h)))
  | succ d ih =>
    intro i r h0 hd hf h
    have hw : wrap64 ((i : Int) + 1) = ((i + 1 : Nat) : Int) := by rw [w64 (by omega) (by omega)]; omega
    have := ih (i + 1) r (by omega) (by omega) hf h
    rw [List.replicate_succ', ← hw] at this
    exact Ev.step (fun k => by rw [spec_l6Search.l0]) (Ev.ite_pos (by omega) (Ev.ite_pos (by simp; omega) (Ev.ite_pos (by simp; omega) this)))
theorem rd_rep8 (n : Int) (h0 : 0 ≤ n) (h1 : n < 8) : rd (List.replicate 8 (-1)) n = -1 := by
  obtain ⟨a, rfl⟩ := Int.eq_ofNat_of_zero_le h0
  rw [rd_eq _ a (by simp; omega), List.getElem_replicate]
theorem search_val (l : List S53) (hp : PlanOk l) (from_ at_ : Int) (hf : 0 ≤ from_ ∧ from_ < 8) (ha : 0 ≤ at_ ∧ at_ ≤ 1000) :
    ∃ W L : List Int, Found l from_ at_ W L ∧ W.length = 8 ∧ Ev (fun k => spec_l6Search.f k l from_ at_) (W, L) ∧ Ev (fun k => impl_reach.f k l from_ at_) (W, L) := by
  have hlen : (List.replicate 8 (-1) : List Int).length = 8 := by simp
  have rW : ∀ n : Int, 0 ≤ n → n < 8 → rd ((List.replicate 8 (-1)).set from_.toNat at_) n = if n = from_ then at_ else -1 := fun n h0 h1 => by
    rw [rd_set_if _ _ n at_ hf.1 (by rw [hlen]; exact hf.2) h0, rd_rep8 n h0 h1]
  have hun : unset ((List.replicate 8 (-1)).set from_.toNat at_) + 1 = 8 := by
    rw [unset_set hlen from_ at_ hf.1 hf.2 (by rw [rd_rep8 _ hf.1 hf.2]; decide) ha.1]; rfl
  have T : Tree l from_ ((List.replicate 8 (-1)).set from_.toNat at_) (List.replicate 8 (-1)) at_ (fun _ => 0) := by
    refine ⟨by rw [List.length_set]; exact hlen, hlen, ⟨ha.1, by omega⟩, fun n h0 h1 => ?_, ?_, fun j hj hi => ?_, fun n h0 h1 hn hn2 => ?_, fun n h0 h1 hn => by omega⟩
    · rw [rW n h0 h1]
      by_cases e : n = from_
      · rw [if_pos e]; omega
      · rw [if_neg e]; omega
    · rw [rW _ hf.1 hf.2, if_pos rfl]; exact ha.1
    · obtain ⟨⟨p0, p1⟩, _, _, hy⟩ := hp.at_ j hj
      obtain ⟨i0, i1, _⟩ := hi
      obtain ⟨_, _, z⟩ := arr_bd hy i0 i1
      rw [rW _ p0 (by omega)] at z i0
      by_cases e : (rd_T53 l (j : Int)).f0 = from_
      · rw [if_pos e] at z; exact z
      · rw [if_neg e] at i0; omega
    · rw [rW n h0 h1, if_neg hn] at hn2; omega
  obtain ⟨W', L', M', rk', T', fin, e, x, y⟩ := reach_go hp hf 8 _ _ _ _ (by omega) T
  rw [rW _ hf.1 hf.2, if_pos rfl] at e
  refine ⟨W', L', ⟨⟨M', rk', T'⟩, fin, e⟩, T'.lenW, ?_, ?_⟩
  · simp only [spec_l6Search.f]
    exact fill8 l from_ at_ 8 0 _ (by omega) (by omega) hf x
  · simp only [impl_reach.f]
    refine Ev.opt_bind (a := List.replicate 8 (-1)) (by simp [slices_Repeat_int_int.f]) (Ev.opt_bind (a := List.replicate 8 (-1)) (by simp [slices_Repeat_int_int.f]) ?_)
    exact Ev.ite_pos hf.1 (Ev.ite_pos (by simp; omega) y)
def LatOk (l : List S53) (f to_ b a : Int) : Prop := ∃ W L : List Int, Ev (fun k => impl_reach.f k l f a) (W, L) ∧ W.length = 8 ∧ 0 ≤ rd W to_ ∧ rd W to_ ≤ b
theorem latest_full_go (l : List S53) (hp : PlanOk l) (f to_ b : Int) (hf : 0 ≤ f ∧ f < 8) (ht : 0 ≤ to_ ∧ to_ < 8) (n : Nat) (hn : n ≤ 1000) :
    ∃ u : Int × Bool, Ev (fun k => spec_LatestFor.l0 k l f to_ b (n : Int)) u ∧ Ev (fun k => impl_LatestFor.l0 k l f to_ b (n : Int)) u ∧ (u.2 = true → 0 ≤ u.1 ∧ u.1 ≤ (n : Int) ∧ LatOk l f to_ b u.1 ∧ (u.1 < (n : Int) → ¬ LatOk l f to_ b (u.1 + 1))) := by
  have stop : ∀ m : Int, m < 0 → Ev (fun k => spec_LatestFor.l0 k l f to_ b m) (0, false) ∧ Ev (fun k => impl_LatestFor.l0 k l f to_ b m) (0, false) := fun m hm =>
    ⟨Ev.step (fun k => by rw [spec_LatestFor.l0]) (Ev.ite_neg (by omega) (Ev.now _)), Ev.step (fun k => by rw [impl_LatestFor.l0]) (Ev.ite_neg (by omega) (Ev.now _))⟩
  have one : ∀ (a : Int) (u : Int × Bool), 0 ≤ a → a ≤ 1000 → Ev (fun k => spec_LatestFor.l0 k l f to_ b (wrap64 (a - 1))) u → Ev (fun k => impl_LatestFor.l0 k l f to_ b (wrap64 (a - 1))) u →
      ∃ v : Int × Bool, Ev (fun k => spec_LatestFor.l0 k l f to_ b a) v ∧ Ev (fun k => impl_LatestFor.l0 k l f to_ b a) v ∧ ((v = (a, true) ∧ LatOk l f to_ b a) ∨ (v = u ∧ ¬ LatOk l f to_ b a)) := fun a u a0 a1 p q => by
    obtain ⟨W, L, _, hW, x, y⟩ := search_val l hp f a hf ⟨a0, a1⟩
    have hlt : to_ < (W.length : Int) := by omega
    have openS : ∀ {r}, _ → Ev (fun k => spec_LatestFor.l0 k l f to_ b a) r := fun {r} h => Ev.step (r := r) (fun k => by rw [spec_LatestFor.l0]) (Ev.ite_pos (by omega) (Ev.bind x (Ev.ite_pos ht.1 (Ev.ite_pos hlt h))))
    have openI : ∀ {r}, _ → Ev (fun k => impl_LatestFor.l0 k l f to_ b a) r := fun {r} h => Ev.step (r := r) (fun k => by rw [impl_LatestFor.l0]) (Ev.ite_pos (by omega) (Ev.bind y (Ev.ite_pos ht.1 (Ev.ite_pos hlt (Ev.opt_bind (within_val _ _ _) h)))))
    by_cases c : 0 ≤ rd W to_ ∧ rd W to_ ≤ b
    · exact ⟨(a, true), openS (Ev.ite_pos c.1 (Ev.ite_pos c.2 (Ev.now _))), openI (Ev.ite_pos (inB_iff.mpr c) (Ev.now _)), .inl ⟨rfl, W, L, y, hW, c⟩⟩
    · refine ⟨u, openS (Ev.ite (fun c1 => Ev.ite_neg (fun c2 => c ⟨c1, c2⟩) p) fun _ => p), openI (Ev.ite_neg (fun h => c (inB_iff.mp h)) q), .inr ⟨rfl, ?_⟩⟩
      rintro ⟨W', L', y', _, c'⟩
      have e := Ev.uniq y y'
      injection e with e1 _
      rw [e1] at c
      exact c c'
  induction n with
  | zero =>
    obtain ⟨p, q⟩ := stop (wrap64 (((0 : Nat) : Int) - 1)) (by rw [w64 (by omega) (by omega)]; omega)
    obtain ⟨v, x, y, z⟩ := one ((0 : Nat) : Int) _ (by omega) (by omega) p q
    refine ⟨v, x, y, fun h => ?_⟩
    rcases z with ⟨rfl, z⟩ | ⟨rfl, z⟩
    · exact ⟨by simp, by simp, z, fun h => by simp at h⟩
    · exact absurd h (by simp)
  | succ n ih =>
    obtain ⟨u, p, q, hu⟩ := ih (by omega)
    have hw : wrap64 (((n + 1 : Nat) : Int) - 1) = (n : Int) := by rw [w64 (by omega) (by omega)]; omega
    obtain ⟨v, x, y, z⟩ := one ((n + 1 : Nat) : Int) u (by omega) (by omega) (by rw [hw]; exact p) (by rw [hw]; exact q)
    refine ⟨v, x, y, fun h => ?_⟩
    rcases z with ⟨rfl, z⟩ | ⟨rfl, z⟩
    · exact ⟨by simp only; omega, by simp, z, fun h => by simp at h⟩
    · obtain ⟨h0, h1, h2, h3⟩ := hu h
      refine ⟨h0, by omega, h2, fun h4 => ?_⟩
      by_cases e : v.1 < (n : Int)
      · exact h3 e
      · have : v.1 + 1 = ((n + 1 : Nat) : Int) := by omega
        rw [this]; exact z
theorem latest_full (l : List S53) (hl : l.length ≤ 1048576) (f to_ b : Int) : ∃ u : Int × Bool, Ev (fun k => spec_LatestFor.f k l f to_ b) u ∧ Ev (fun k => impl_LatestFor.f k l f to_ b) u ∧
    (u.2 = true → planB l = true ∧ inB f 0 7 = true ∧ inB to_ 0 7 = true ∧ 0 ≤ u.1 ∧ u.1 ≤ 1000 ∧ LatOk l f to_ b u.1 ∧ (u.1 < 1000 → ¬ LatOk l f to_ b (u.1 + 1))) := by
  have hs := specPlan_val l hl
  have hi := implPlan_val l
  simp only [spec_LatestFor.f, impl_LatestFor.f, impl_isNode.f, l6Node_val, l1In_val, within_val, Option.bind_some]
  have noS : Ev (fun k => spec_LatestFor.j0 k l f to_ b true) (0, false) := Ev.step (fun k => by rw [spec_LatestFor.j0]) (Ev.ite_pos rfl (Ev.now _))
  have noI : Ev (fun k => impl_LatestFor.j0 k l f to_ b true) (0, false) := Ev.step (fun k => by rw [impl_LatestFor.j0]) (Ev.ite_pos rfl (Ev.now _))
  have nn : ∀ {P : Prop}, ((0 : Int), false).2 = true → P := fun h => absurd h (by simp)
  by_cases hp : planB l = true
  case neg => exact ⟨(0, false), Ev.bind hs (Ev.ite_neg hp noS), Ev.opt_bind hi (Ev.ite_neg hp noI), nn⟩
  by_cases hf : inB f 0 7 = true
  case neg => exact ⟨(0, false), Ev.bind hs (Ev.ite_pos hp (Ev.ite_neg hf noS)), Ev.opt_bind hi (Ev.ite_pos hp (Ev.ite_neg hf noI)), nn⟩
  by_cases ht : inB to_ 0 7 = true
  case neg => exact ⟨(0, false), Ev.bind hs (Ev.ite_pos hp (Ev.ite_pos hf (Ev.ite_neg ht noS))), Ev.opt_bind hi (Ev.ite_pos hp (Ev.ite_pos hf (Ev.ite_neg ht noI))), nn⟩
  have hf' := inB_iff.mp hf
  have ht' := inB_iff.mp ht
  cases hb : inB b 0 2000 with
  | false => exact ⟨(0, false), Ev.bind hs (Ev.ite_pos hp (Ev.ite_pos hf (Ev.ite_pos ht noS))), Ev.opt_bind hi (Ev.ite_pos hp (Ev.ite_pos hf (Ev.ite_pos ht noI))), nn⟩
  | true =>
    obtain ⟨u, x, y, z⟩ := latest_full_go l (planB_ok hp) f to_ b ⟨hf'.1, by omega⟩ ⟨ht'.1, by omega⟩ 1000 (by omega)
    refine ⟨u, Ev.bind hs (Ev.ite_pos hp (Ev.ite_pos hf (Ev.ite_pos ht (Ev.step (fun k => by rw [spec_LatestFor.j0]) ?_)))), Ev.opt_bind hi (Ev.ite_pos hp (Ev.ite_pos hf (Ev.ite_pos ht (Ev.step (fun k => by rw [impl_LatestFor.j0]) ?_)))), fun h => ⟨hp, hf, ht, z h⟩⟩
    · exact Ev.ite_neg (by decide) x
    · exact Ev.ite_neg (by decide) y
theorem earliest_at {l : List S53} {f a : Int} {W L : List Int} (hp : planB l = true) (hf : inB f 0 7 = true) (ha : inB a 0 1000 = true) (h : Ev (fun k => impl_reach.f k l f a) (W, L)) : Ev (fun k => impl_EarliestFrom.f k l f a) (W, true) := by
  have hi := implPlan_val l
  simp only [impl_EarliestFrom.f, impl_isWhen.f, impl_isNode.f, within_val, Option.bind_some]
  exact Ev.opt_bind hi (Ev.ite_pos hp (Ev.ite_pos hf (Ev.ite_pos ha (Ev.bind h (Ev.now _)))))
theorem openAt_go (l : List S53) (hp : PlanOk l) (at_ : Int) (d : Nat) : ∀ (i : Nat) (acc : List Int), i ≤ l.length → l.length - i = d → acc.length ≤ i →
    ∃ out : List Int, Ev (fun k => spec_OpenAt.l0 k at_ acc l (l.length : Int) (i : Int)) (out, true) ∧ Ev (fun k => impl_OpenAt.l0 k at_ acc l (l.length : Int) (i : Int)) (out, true) ∧ out.length ≤ 20 := by
  have h20 := hp.len
  induction d with
  | zero =>
    intro i acc h0 hd ha
    refine ⟨acc, ?_, ?_, by omega⟩
    · exact Ev.step (fun k => by rw [spec_OpenAt.l0]) (Ev.ite_neg (by omega) (Ev.now _))
    · exact Ev.step (fun k => by rw [impl_OpenAt.l0]) (Ev.ite_neg (by omega) (Ev.now _))
  | succ d ih =>
    intro i acc h0 hd ha
    have hw : wrap64 ((i : Int) + 1) = ((i + 1 : Nat) : Int) := by rw [w64 (by omega) (by omega)]; omega
    obtain ⟨_, _, _, ⟨b0, b1, b2⟩, _⟩ := hp.at_ i (by omega)
    have hw2 : wrap64 ((rd_T53 l (i : Int)).f3 - 1) = (rd_T53 l (i : Int)).f3 - 1 := w64 (by omega) (by omega)
    by_cases c : (rd_T53 l (i : Int)).f2 ≤ at_ ∧ at_ < (rd_T53 l (i : Int)).f3
    · obtain ⟨out, x, y, z⟩ := ih (i + 1) (acc ++ [(i : Int)]) (by omega) (by omega) (by simp; omega)
      refine ⟨out, ?_, ?_, z⟩
      · refine Ev.step (fun k => by rw [spec_OpenAt.l0]) (Ev.ite_pos (by omega) (Ev.ite_pos (by omega) (Ev.ite_pos (by omega) (Ev.ite_pos c.1 (Ev.ite_pos c.2 (Ev.ite_pos (by omega) ?_))))))
        rw [hw]; exact x
      · refine Ev.step (fun k => by rw [impl_OpenAt.l0]) (Ev.ite_pos (by omega) (Ev.ite_pos (by omega) (Ev.ite_pos (by omega) (Ev.opt_bind (within_val _ _ _) ?_))))
        refine Ev.ite_pos (by rw [hw2, inB_iff]; omega) (Ev.ite_pos (by omega) ?_)
        rw [hw]; exact y
    · obtain ⟨out, x, y, z⟩ := ih (i + 1) acc (by omega) (by omega) (by omega)
      refine ⟨out, ?_, ?_, z⟩
      · refine Ev.step (fun k => by rw [spec_OpenAt.l0]) (Ev.ite_pos (by omega) (Ev.ite_pos (by omega) (Ev.ite_pos (by omega) (Ev.ite (fun c1 => Ev.ite_neg (fun c2 => c ⟨c1, c2⟩) ?_) fun _ => ?_))))
        · rw [hw]; exact x
        · rw [hw]; exact x
      · refine Ev.step (fun k => by rw [impl_OpenAt.l0]) (Ev.ite_pos (by omega) (Ev.ite_pos (by omega) (Ev.ite_pos (by omega) (Ev.opt_bind (within_val _ _ _) ?_))))
        refine Ev.ite_neg (by rw [hw2, inB_iff]; omega) ?_
        rw [hw]; exact y
theorem openAt_val (l : List S53) (hl : l.length ≤ 1048576) (at_ : Int) : ∃ (out : List Int) (b : Bool), Ev (fun k => spec_OpenAt.f k l at_) (out, b) ∧ Ev (fun k => impl_OpenAt.f k l at_) (out, b) ∧ out.length ≤ 20 := by
  have hs := specPlan_val l hl
  have hi := implPlan_val l
  simp only [spec_OpenAt.f, impl_OpenAt.f, impl_isWhen.f, l6When_val, within_val, Option.bind_some]
  have no : Ev (fun k => spec_OpenAt.j0 k l at_ true) (([] : List Int), false) ∧ Ev (fun k => impl_OpenAt.j0 k l at_ true) (([] : List Int), false) :=
    ⟨Ev.step (fun k => by rw [spec_OpenAt.j0]) (Ev.ite_pos rfl (Ev.now _)), Ev.step (fun k => by rw [impl_OpenAt.j0]) (Ev.ite_pos rfl (Ev.now _))⟩
  cases hp : planB l with
  | false =>
    rw [hp] at hs hi
    exact ⟨[], false, Ev.bind hs (Ev.ite_neg (by decide) no.1), Ev.opt_bind hi (Ev.ite_neg (by decide) no.2), by simp⟩
  | true =>
    rw [hp] at hs hi
    cases hq : inB at_ 0 1000 with
    | false => exact ⟨[], false, Ev.bind hs (Ev.ite_pos rfl no.1), Ev.opt_bind hi (Ev.ite_pos rfl no.2), by simp⟩
    | true =>
      obtain ⟨out, x, y, z⟩ := openAt_go l (planB_ok hp) at_ l.length 0 [] (by omega) (by omega) (by simp)
      refine ⟨out, true, Ev.bind hs (Ev.ite_pos rfl (Ev.step (fun k => by rw [spec_OpenAt.j0]) ?_)), Ev.opt_bind hi (Ev.ite_pos rfl (Ev.step (fun k => by rw [impl_OpenAt.j0]) ?_)), z⟩
      · exact Ev.ite_neg (by decide) x
      · exact Ev.ite_neg (by decide) y
def AllAt (n : Nat) (o : List Int) : Prop := ∀ j : Nat, j < o.length → 0 ≤ rd o (j : Int) ∧ rd o (j : Int) < (n : Int)
theorem rowS_go (l : List S53) (o : List Int) (ho : o.length ≤ 1048576) (d : Nat) : ∀ i : Nat, 1 ≤ i → i ≤ o.length → o.length - i = d → (∀ j : Nat, j < i → 0 ≤ rd o (j : Int) ∧ rd o (j : Int) < (l.length : Int)) →
    ∃ b : Bool, Ev (fun k => spec_l6Row.l0 k l o o (o.length : Int) (i : Int)) b ∧ (b = true → o.length ≤ 20 ∧ AllAt l.length o) ∧ (AllAt l.length o → o.length ≤ 20 → Ev (fun k => impl_isRow.l0 k l o (i : Int)) b) := by
  induction d with
  | zero =>
    intro i h1 h0 hd hp
    obtain rfl : i = o.length := by omega
    refine ⟨decide ((o.length : Int) ≤ 20), ?_, fun h => ⟨by have := of_decide_eq_true h; omega, hp⟩, fun _ h => ?_⟩
    · exact Ev.step (fun k => by rw [spec_l6Row.l0]) (Ev.ite_neg (by omega) (Ev.now _))
    · rw [decide_eq_true (show (o.length : Int) ≤ 20 by omega)]
      exact Ev.step (fun k => by rw [impl_isRow.l0]) (Ev.ite_neg (by omega) (Ev.now _))
  | succ d ih =>
    intro i h1 h0 hd hp
    have hi : i < o.length := by omega
    have hw : wrap64 ((i : Int) + 1) = ((i + 1 : Nat) : Int) := by rw [w64 (by omega) (by omega)]; omega
    have hw2 : wrap64 ((i : Int) - 1) = ((i - 1 : Nat) : Int) := by rw [w64 (by omega) (by omega)]; omega
    obtain ⟨p0, p1⟩ := hp (i - 1) (by omega)
    have open_ : ∀ {r}, _ → Ev (fun k => spec_l6Row.l0 k l o o (o.length : Int) (i : Int)) r := fun {r} h => Ev.step (r := r) (fun k => by rw [spec_l6Row.l0]) (Ev.ite_pos (by omega) (Ev.ite_pos (by omega) (Ev.ite_pos (by omega) h)))
    by_cases c0 : rd o (i : Int) < 0
    · exact ⟨false, open_ (Ev.ite_pos c0 (Ev.now _)), fun h => absurd h (by decide), fun h => by have := (h i hi).1; omega⟩
    by_cases c1 : rd o (i : Int) ≥ (l.length : Int)
    · exact ⟨false, open_ (Ev.ite_neg c0 (Ev.ite_pos c1 (Ev.now _))), fun h => absurd h (by decide), fun h => by have := (h i hi).2; omega⟩
    have q0 : 0 ≤ rd o (i : Int) := by omega
    have q1 : rd o (i : Int) < (l.length : Int) := by omega
    have open2 : ∀ {r}, _ → Ev (fun k => spec_l6Row.l0 k l o o (o.length : Int) (i : Int)) r := fun {r} h => open_ (r := r) (Ev.ite_neg c0 (Ev.ite_neg c1 (Ev.ite_pos (by omega) (Ev.ite_pos (by rw [hw2]; omega) (Ev.ite_pos (by rw [hw2]; omega) (Ev.ite_pos (by rw [hw2]; exact p0) (Ev.ite_pos (by rw [hw2]; exact p1) (Ev.ite_pos q0 (Ev.ite_pos q1 h)))))))))
    have openI : ∀ {r}, _ → Ev (fun k => impl_isRow.l0 k l o (i : Int)) r := fun {r} h => Ev.step (r := r) (fun k => by rw [impl_isRow.l0]) (Ev.ite_pos (by omega) (Ev.ite_pos (by omega) (Ev.ite_pos q0 (Ev.ite_pos q1 (Ev.ite_pos (by rw [hw2]; omega) (Ev.ite_pos (by rw [hw2]; omega) (Ev.ite_pos (by rw [hw2]; exact p0) (Ev.ite_pos (by rw [hw2]; exact p1) h))))))))
    by_cases c2 : (rd_T53 l (rd o (wrap64 ((i : Int) - 1)))).f1 = (rd_T53 l (rd o (i : Int))).f0
    · obtain ⟨b, x, y, z⟩ := ih (i + 1) (by omega) (by omega) (by omega) (fun j hj => by
        rcases Nat.lt_or_ge j i with h | h
        · exact hp j h
        · obtain rfl : j = i := by omega
          exact ⟨q0, q1⟩)
      rw [← hw] at x z
      exact ⟨b, open2 (Ev.ite_pos c2 x), y, fun h h' => openI (Ev.ite_pos c2.symm (z h h'))⟩
    · exact ⟨false, open2 (Ev.ite_neg c2 (Ev.now _)), fun h => absurd h (by decide), fun h h' => openI (Ev.ite_neg (fun e => c2 e.symm) (Ev.now _))⟩
theorem row_val (l : List S53) (o : List Int) (ho : o.length ≤ 1048576) :
    ∃ b : Bool, Ev (fun k => spec_l6Row.f k l o) b ∧ (b = true → o.length ≤ 20 ∧ AllAt l.length o) ∧ (AllAt l.length o → o.length ≤ 20 → Ev (fun k => impl_isRow.f k l o) b) := by
  simp only [spec_l6Row.f, impl_isRow.f]
  by_cases hz : o.length = 0
  · refine ⟨true, ?_, fun _ => ⟨by omega, fun j hj => by omega⟩, fun _ _ => ?_⟩
    · exact Ev.step (fun k => by rw [spec_l6Row.l0]) (Ev.ite_neg (by omega) (Ev.now' (by simp [hz])))
    · exact Ev.step (fun k => by rw [impl_isRow.l0]) (Ev.ite_neg (by omega) (Ev.now _))
  have open_ : ∀ {r}, _ → Ev (fun k => spec_l6Row.l0 k l o o (o.length : Int) 0) r := fun {r} h => Ev.step (r := r) (fun k => by rw [spec_l6Row.l0]) (Ev.ite_pos (by omega) (Ev.ite_pos (by omega) (Ev.ite_pos (by omega) h)))
  have h00 := fun h : AllAt l.length o => h 0 (by omega)
  by_cases c0 : rd o 0 < 0
  · exact ⟨false, open_ (Ev.ite_pos c0 (Ev.now _)), fun h => absurd h (by decide), fun h => by have := (h00 h).1; simp only [Int.ofNat_zero, Int.natCast_zero] at this; omega⟩
  by_cases c1 : rd o 0 ≥ (l.length : Int)
  · exact ⟨false, open_ (Ev.ite_neg c0 (Ev.ite_pos c1 (Ev.now _))), fun h => absurd h (by decide), fun h => by have := (h00 h).2; simp only [Int.ofNat_zero, Int.natCast_zero] at this; omega⟩
  obtain ⟨b, x, y, z⟩ := rowS_go l o ho (o.length - 1) 1 (by omega) (by omega) (by omega) (fun j hj => by
    obtain rfl : j = 0 := by omega
    exact ⟨show 0 ≤ rd o 0 by omega, show rd o 0 < (l.length : Int) by omega⟩)
  refine ⟨b, open_ (Ev.ite_neg c0 (Ev.ite_neg c1 (Ev.ite_neg (by omega) ?_))), y, z⟩
  rw [show wrap64 (0 + 1) = ((1 : Nat) : Int) from by rw [w64 (by omega) (by omega)]; rfl]
  exact x
theorem areOf_val (o : List Int) (n : Nat) (hn : n ≤ 1048576) : ∃ b : Bool, impl_areOf.f o (n : Int) 20 = some b ∧ (b = true ↔ o.length ≤ 20 ∧ AllAt n o) := by
  refine ⟨_, rfl, ?_⟩
  have hw : wrap64 ((n : Int) - 1) = (n : Int) - 1 := w64 (by omega) (by omega)
  have hb : ∀ x : Int, badN (n : Int) x = false ↔ 0 ≤ x ∧ x < (n : Int) := fun x => by
    unfold badN inA
    rw [hw, Bool.not_eq_false', Bool.and_eq_true, decide_eq_true_eq, decide_eq_true_eq]
    omega
  rw [Bool.and_eq_true, decide_eq_true_eq, Bool.not_eq_true', List.any_eq_false]
  constructor
  · rintro ⟨h, h2⟩
    refine ⟨by omega, fun j hj => ?_⟩
    rw [rd_eq o j hj]
    have := h2 o[j] (List.getElem_mem hj)
    exact (hb _).mp (by simpa using this)
  · rintro ⟨h, h2⟩
    refine ⟨by omega, fun x hx => ?_⟩
    obtain ⟨j, hj, rfl⟩ := List.mem_iff_getElem.mp hx
    have := h2 j hj
    rw [rd_eq o j hj] at this
    rw [(hb _).mpr this]; decide
theorem usesS_go (l : List S53) (o : List Int) (ho : o.length ≤ 20) (b : Bool) (hb : Ev (fun k => spec_l6Row.f k l o) b) (d : Nat) : ∀ i : Nat, i ≤ o.length → o.length - i = d → (∀ j : Nat, j < i → 0 ≤ rd o (j : Int) ∧ rd o (j : Int) < (l.length : Int)) →
    ∃ u : Bool × Bool, Ev (fun k => spec_UsesOf.l0 k l o o (o.length : Int) (i : Int)) u ∧ (AllAt l.length o → u = (b, true)) ∧ (¬ AllAt l.length o → u = (false, false)) := by
  induction d with
  | zero =>
    intro i h0 hd hp
    obtain rfl : i = o.length := by omega
    exact ⟨(b, true), Ev.step (fun k => by rw [spec_UsesOf.l0]) (Ev.ite_neg (by omega) (Ev.bind hb (Ev.now _))), fun _ => rfl, fun h => absurd hp h⟩
  | succ d ih =>
    intro i h0 hd hp
    have hi : i < o.length := by omega
    have hw : wrap64 ((i : Int) + 1) = ((i + 1 : Nat) : Int) := by rw [w64 (by omega) (by omega)]; omega
    have open_ : ∀ {r}, _ → Ev (fun k => spec_UsesOf.l0 k l o o (o.length : Int) (i : Int)) r := fun {r} h => Ev.step (r := r) (fun k => by rw [spec_UsesOf.l0]) (Ev.ite_pos (by omega) (Ev.ite_pos (by omega) (Ev.ite_pos (by omega) h)))
    by_cases c0 : rd o (i : Int) < 0
    · exact ⟨_, open_ (Ev.ite_pos c0 (Ev.now _)), fun h => by have := (h i hi).1; omega, fun _ => rfl⟩
    by_cases c1 : rd o (i : Int) ≥ (l.length : Int)
    · exact ⟨_, open_ (Ev.ite_neg c0 (Ev.ite_pos c1 (Ev.now _))), fun h => by have := (h i hi).2; omega, fun _ => rfl⟩
    obtain ⟨u, x, y, z⟩ := ih (i + 1) (by omega) (by omega) (fun j hj => by
      rcases Nat.lt_or_ge j i with h | h
      · exact hp j h
      · obtain rfl : j = i := by omega
        exact ⟨by omega, by omega⟩)
    rw [← hw] at x
    exact ⟨u, open_ (Ev.ite_neg c0 (Ev.ite_neg c1 x)), y, z⟩
theorem usesOf_val (l : List S53) (hl : l.length ≤ 1048576) (o : List Int) (ho : o.length ≤ 1048576) : ∃ u : Bool × Bool, Ev (fun k => spec_UsesOf.f k l o) u ∧ Ev (fun k => impl_UsesOf.f k l o) u := by
  have hs := specPlan_val l hl
  have hi := implPlan_val l
  simp only [spec_UsesOf.f, impl_UsesOf.f]
  have no : Ev (fun k => spec_UsesOf.j0 k l o true) (false, false) := Ev.step (fun k => by rw [spec_UsesOf.j0]) (Ev.ite_pos rfl (Ev.now _))
  cases hp : planB l with
  | false =>
    rw [hp] at hs hi
    exact ⟨(false, false), Ev.bind hs (Ev.ite_neg (by decide) no), Ev.opt_bind hi (Ev.ite_neg (by decide) (Ev.now _))⟩
  | true =>
    rw [hp] at hs hi
    obtain ⟨a, ha, ha2⟩ := areOf_val o l.length (by omega)
    obtain ⟨b, x, y, z⟩ := row_val l o ho
    by_cases h20 : (o.length : Int) > 20
    · have : a = false := by
        cases a with
        | false => rfl
        | true => have := (ha2.mp rfl).1; omega
      subst this
      exact ⟨(false, false), Ev.bind hs (Ev.ite_pos rfl (by rw [decide_eq_true h20]; exact no)), Ev.opt_bind hi (Ev.ite_pos rfl (Ev.opt_bind ha (Ev.ite_neg (by decide) (Ev.now _))))⟩
    · obtain ⟨u, p, q, r⟩ := usesS_go l o (by omega) b x o.length 0 (by omega) (by omega) (fun j hj => by omega)
      have sp : Ev (fun k => spec_UsesOf.j0 k l o (decide ((o.length : Int) > 20))) u := by
        rw [decide_eq_false h20]
        refine Ev.step (fun k => by rw [spec_UsesOf.j0]) ?_
        exact Ev.ite_neg (by decide) p
      refine ⟨u, Ev.bind hs (Ev.ite_pos rfl sp), Ev.opt_bind hi (Ev.ite_pos rfl (Ev.opt_bind ha ?_))⟩
      cases a with
      | true =>
        obtain ⟨_, all⟩ := ha2.mp rfl
        rw [q all]
        exact Ev.ite_pos rfl (Ev.bind (z all (by omega)) (Ev.now _))
      | false =>
        rw [r (fun all => absurd (ha2.mpr ⟨by omega, all⟩) (by decide))]
        exact Ev.ite_neg (by decide) (Ev.now _)
theorem sameInts_go (l : List Int) (hl : l.length ≤ 1000000) (d : Nat) : ∀ i : Nat, i ≤ l.length → l.length - i = d → Ev (fun k => laws_sameInts.l0 k l l (l.length : Int) (i : Int)) true := by
  induction d with
  | zero =>
    intro i h0 hd
    exact Ev.step (fun k => by rw [laws_sameInts.l0]) (Ev.ite_neg (by omega) (Ev.now _))
  | succ d ih =>
    intro i h0 hd
    have hw : wrap64 ((i : Int) + 1) = ((i + 1 : Nat) : Int) := by rw [w64 (by omega) (by omega)]; omega
    have := ih (i + 1) (by omega) (by omega)
    rw [← hw] at this
    exact Ev.step (fun k => by rw [laws_sameInts.l0]) (Ev.ite_pos (by omega) (Ev.ite_pos (by omega) (Ev.ite_pos (by omega) (Ev.ite_pos (by omega) (Ev.ite_pos rfl this)))))
theorem sameInts_self (l : List Int) (hl : l.length ≤ 1000000) : Ev (fun k => laws_sameInts.f k l l) true := by
  simp only [laws_sameInts.f]
  exact Ev.ite_pos trivial (sameInts_go l hl l.length 0 (by omega) (by omega))
def Code (c : List Int) : Prop := c.length ≤ 140737488355328 ∧ ∀ x ∈ c, 0 ≤ x ∧ x ≤ 255
theorem code_of {l : List Int} (h0 : l.length * 1 ≤ 140737488351232) (h : ∀ x ∈ l, (Lit.int .u8 x).wf = true) : Code l := ⟨by omega, fun x hx => wf_u8 (h x hx)⟩
theorem Code.rd {c : List Int} (h : Code c) (i : Int) : 0 ≤ rd c i ∧ rd c i ≤ 255 := by
  unfold Go.Proofs.YtckndinhkkhonaaW.PrintWords.rd
  rw [List.getD_eq_getElem?_getD]
  by_cases hi : i.toNat < c.length
  · rw [List.getElem?_eq_getElem hi]
    exact h.2 _ (List.getElem_mem hi)
  · rw [List.getElem?_eq_none (by omega)]
    simp
theorem u64_wraps (n : Int) (h0 : 0 ≤ n) (h1 : n < 2 ^ 64) : IntKind.u64.wrap n = n := by
  have e : IntKind.u64.wrap n = n % 18446744073709551616 := by simp [IntKind.wrap, IntKind.bits, IntKind.signed]
  rw [e]; omega
theorem u64_bd (n : Int) : 0 ≤ IntKind.u64.wrap n ∧ IntKind.u64.wrap n < 2 ^ 64 := by
  have e : IntKind.u64.wrap n = n % 18446744073709551616 := by simp [IntKind.wrap, IntKind.bits, IntKind.signed]
  rw [e]; omega
theorem low_byte (n : Int) : 0 ≤ wrap64 (Go.bits .and .u64 (IntKind.u64.wrap n / 1099511627776) 255) ∧ wrap64 (Go.bits .and .u64 (IntKind.u64.wrap n / 1099511627776) 255) ≤ 255 := by
  obtain ⟨h0, h1⟩ := u64_bd n
  generalize IntKind.u64.wrap n = x at h0 h1 ⊢
  have := bits_mask .u64 64 (by decide) u64_wraps 8 (by omega) (x / 1099511627776) (by omega) (by omega)
  have e : Go.bits .and .u64 (x / 1099511627776) 255 = (x / 1099511627776) % 256 := by simpa using this
  rw [e, w64 (by omega) (by omega)]
  omega
theorem next_val {c : List Int} (hc : Code c) {p : Int} (s : Int) (h0 : 0 ≤ p) (h1 : p ≤ 4611686018427387904) :
    ∃ b s', spec_l1Cur_next.f c p s = some (b, p + 1, s') ∧ 0 ≤ b ∧ b ≤ 255 := by
  have hl := hc.1
  have hw : wrap64 (p + 1) = p + 1 := w64 (by omega) (by omega)
  unfold spec_l1Cur_next.f
  rw [hw]
  by_cases hp : p < (c.length : Int)
  · rw [if_pos hp, if_pos h0, if_pos (show p + 1 ≤ (c.length : Int) by omega)]
    have hr := hc.rd p
    refine ⟨_, _, rfl, ?_⟩
    rw [w64 (by omega) (by omega)]
    exact hr
  · rw [if_neg hp, if_neg (show ¬ p + 1 ≤ (c.length : Int) by omega)]
    exact ⟨_, _, rfl, low_byte _⟩
theorem pick_val {c : List Int} (hc : Code c) {p : Int} (s n : Int) (h0 : 0 ≤ p) (h1 : p ≤ 4611686018427387903) :
    ∃ v p' s', spec_l1Cur_pick.f c p s n = some (v, p', s') ∧ 0 ≤ v ∧ (v < n ∨ n ≤ 1 ∧ v = 0) ∧ p ≤ p' ∧ p' ≤ p + 2 := by
  unfold spec_l1Cur_pick.f
  by_cases hn : n ≤ 1
  · rw [if_pos hn]
    exact ⟨0, p, s, rfl, by omega, .inr ⟨hn, rfl⟩, by omega, by omega⟩
  · rw [if_neg hn]
    obtain ⟨b, s', e, b0, b1⟩ := next_val hc s h0 (by omega)
    rw [e, Option.bind_some]
    by_cases h2 : n > 200
    · rw [if_pos h2]
      obtain ⟨b2, s2, e2, b20, b21⟩ := next_val hc (p := p + 1) s' (by omega) (by omega)
      simp only
      rw [e2, Option.bind_some, if_neg (show ¬ n = 0 by omega)]
      refine ⟨_, _, _, rfl, ?_, .inl ?_, by simp only; omega, by simp only; omega⟩
      · rw [w64 (x := b * 256) (by omega) (by omega), w64 (by omega) (by omega), Int.tmod_eq_emod_of_nonneg (by omega)]
        exact Int.emod_nonneg _ (by omega)
      · rw [w64 (x := b * 256) (by omega) (by omega), w64 (by omega) (by omega), Int.tmod_eq_emod_of_nonneg (by omega)]
        exact Int.emod_lt_of_pos _ (by omega)
    · rw [if_neg h2]
      simp only
      rw [if_neg (show ¬ n = 0 by omega)]
      refine ⟨_, _, _, rfl, ?_, .inl ?_, by omega, by omega⟩
      · rw [Int.tmod_eq_emod_of_nonneg (by omega)]
        exact Int.emod_nonneg _ (by omega)
      · rw [Int.tmod_eq_emod_of_nonneg (by omega)]
        exact Int.emod_lt_of_pos _ (by omega)
theorem among_val {c : List Int} (hc : Code c) {p : Int} (s : Int) (l : List Int) (hl : 2 ≤ l.length) (hb : l.length ≤ 1000000) (h0 : 0 ≤ p) (h1 : p ≤ 4611686018427387903) :
    ∃ v p' s', spec_l1Cur_among.f c p s l = some (v, p', s') ∧ v ∈ l ∧ p ≤ p' ∧ p' ≤ p + 2 := by
  obtain ⟨v, p', s', e, v0, v1, p0, p1⟩ := pick_val hc s (l.length : Int) h0 h1
  have v2 : v < (l.length : Int) := by omega
  unfold spec_l1Cur_among.f
  rw [e, Option.bind_some]
  simp only
  rw [if_pos v0, if_pos v2]
  obtain ⟨n, rfl⟩ := Int.eq_ofNat_of_zero_le v0
  have hn : n < l.length := by omega
  refine ⟨_, _, _, rfl, ?_, p0, p1⟩
  rw [rd_eq l n hn]
  exact List.getElem_mem hn
theorem one_val {c : List Int} (hc : Code c) {p : Int} (s n : Int) (h0 : 0 ≤ p) (h1 : p ≤ 4611686018427387903) :
    ∃ b p' s', spec_l1Cur_one.f c p s n = some (b, p', s') ∧ p ≤ p' ∧ p' ≤ p + 2 := by
  obtain ⟨v, p', s', e, _, _, p0, p1⟩ := pick_val hc s n h0 h1
  unfold spec_l1Cur_one.f
  rw [e, Option.bind_some]
  exact ⟨_, _, _, rfl, p0, p1⟩
theorem plan_go {c : List Int} (hc : Code c) (n : Nat) (hn : n ≤ 21) : ∀ (acc : List S53) (p s : Int), acc.length + n ≤ 25 → 0 ≤ p → p + 10 * n + 4 ≤ 4611686018427380000 →
    ∃ l p' s', Ev (fun k => spec_l1Cur_plan.l0 k acc (n : Int) c p s) (l, p', s') ∧ l.length ≤ 25 ∧ p ≤ p' ∧ p' ≤ p + 10 * n + 4 := by
  induction n with
  | zero =>
    intro acc p s ha h0 h1
    by_cases hz : (acc.length : Int) > 0
    · obtain ⟨b, p1, s1, e1, q0, q1⟩ := one_val hc s 30 h0 (by omega)
      cases b with
      | false =>
        refine ⟨acc, p1, s1, Ev.step (fun k => by rw [spec_l1Cur_plan.l0]) ?_, by omega, by omega, by omega⟩
        refine Ev.ite_neg (by decide) (Ev.ite_pos hz (Ev.opt_bind e1 ?_))
        exact Ev.ite_neg (by simp) (Ev.now _)
      | true =>
        obtain ⟨v, p2, s2, e2, _, r0, r1⟩ := among_val hc (p := p1) s1 ([0, 1000, 1001] : List Int) (by decide) (by decide) (by omega) (by omega)
        refine ⟨acc.set (0 : Int).toNat ⟨(rd_T53 acc 0).f0, (rd_T53 acc 0).f1, (rd_T53 acc 0).f2, v, (rd_T53 acc 0).f4⟩, p2, s2, Ev.step (fun k => by rw [spec_l1Cur_plan.l0]) ?_, by rw [List.length_set]; omega, by omega, by omega⟩
        refine Ev.ite_neg (by decide) (Ev.ite_pos hz (Ev.opt_bind e1 ?_))
        refine Ev.ite_pos rfl (Ev.opt_bind e2 ?_)
        exact Ev.ite_pos hz (Ev.now _)
    · exact ⟨acc, p, s, Ev.step (fun k => by rw [spec_l1Cur_plan.l0]) (Ev.ite_neg (by decide) (Ev.ite_neg hz (Ev.now _))), by omega, by omega, by omega⟩
  | succ n ih =>
    intro acc p s ha h0 h1
    have hw : wrap64 (((n + 1 : Nat) : Int) - 1) = (n : Int) := by rw [w64 (by omega) (by omega)]; omega
    obtain ⟨a1, p1, s1, e1, _, _, q1, r1⟩ := pick_val hc s 5 h0 (by omega)
    obtain ⟨a2, p2, s2, e2, _, _, q2, r2⟩ := pick_val hc (p := p1) s1 5 (by omega) (by omega)
    obtain ⟨a3, p3, s3, e3, _, _, q3, r3⟩ := pick_val hc (p := p2) s2 40 (by omega) (by omega)
    obtain ⟨a4, p4, s4, e4, _, _, q4, r4⟩ := pick_val hc (p := p3) s3 6 (by omega) (by omega)
    obtain ⟨a5, p5, s5, e5, _, _, q5, r5⟩ := pick_val hc (p := p4) s4 30 (by omega) (by omega)
    have room : acc.length < 3518437208883 := by omega
    have go : ∀ x : S53, ∃ l p' s', Ev (fun k => spec_l1Cur_plan.l0 k (acc ++ [x]) (wrap64 (((n + 1 : Nat) : Int) - 1)) c p5 s5) (l, p', s') ∧ l.length ≤ 25 ∧ p ≤ p' ∧ p' ≤ p + 10 * ((n + 1 : Nat) : Int) + 4 := fun x => by
      obtain ⟨l, p', s', f, g1, g2, g3⟩ := ih (by omega) (acc ++ [x]) p5 s5 (by simp; omega) (by omega) (by omega)
      rw [← hw] at f
      exact ⟨l, p', s', f, g1, by omega, by omega⟩
    by_cases e : a1 = a2
    · obtain ⟨l, p', s', f, g⟩ := go ⟨a1, Int.tmod (wrap64 (a2 + 1)) 5, a3, wrap64 ((wrap64 (a3 + 1)) + a5), a4⟩
      exact ⟨l, p', s', Ev.step (fun k => by rw [spec_l1Cur_plan.l0]) (Ev.ite_pos (by omega) (Ev.opt_bind e1 (Ev.opt_bind e2 (Ev.opt_bind e3 (Ev.opt_bind e4 (Ev.opt_bind e5 (Ev.ite_pos e (Ev.ite_pos room f)))))))), g⟩
    · obtain ⟨l, p', s', f, g⟩ := go ⟨a1, a2, a3, wrap64 ((wrap64 (a3 + 1)) + a5), a4⟩
      exact ⟨l, p', s', Ev.step (fun k => by rw [spec_l1Cur_plan.l0]) (Ev.ite_pos (by omega) (Ev.opt_bind e1 (Ev.opt_bind e2 (Ev.opt_bind e3 (Ev.opt_bind e4 (Ev.opt_bind e5 (Ev.ite_neg e (Ev.ite_pos room f)))))))), g⟩
theorem plan_val {c : List Int} (hc : Code c) : ∃ l p s, Ev (fun k => spec_l1Cur_plan.f k c 0 0) (l, p, s) ∧ l.length ≤ 25 ∧ 0 ≤ p ∧ p ≤ 300 := by
  obtain ⟨a, p1, s1, e1, a0, a1, q1, r1⟩ := pick_val hc (p := 0) 0 10 (by omega) (by omega)
  obtain ⟨b, p2, s2, e2, q2, r2⟩ := one_val hc (p := p1) s1 20 (by omega) (by omega)
  simp only [spec_l1Cur_plan.f]
  cases b with
  | false =>
    obtain ⟨n, rfl⟩ := Int.eq_ofNat_of_zero_le a0
    obtain ⟨l, p', s', f, g1, g2, g3⟩ := plan_go hc n (by omega) [] p2 s2 (by simp; omega) (by omega) (by omega)
    exact ⟨l, p', s', Ev.opt_bind e1 (Ev.opt_bind e2 (Ev.ite_neg (by simp) (Ev.step (fun k => by rw [spec_l1Cur_plan.j0]) f))), g1, by omega, by omega⟩
  | true =>
    obtain ⟨v, p3, s3, e3, v0, v1, q3, r3⟩ := pick_val hc (p := p2) s2 2 (by omega) (by omega)
    obtain ⟨n, hn⟩ := Int.eq_ofNat_of_zero_le v0
    subst hn
    have hw : wrap64 (20 + (n : Int)) = ((20 + n : Nat) : Int) := by rw [w64 (by omega) (by omega)]; omega
    obtain ⟨l, p', s', f, g1, g2, g3⟩ := plan_go hc (20 + n) (by omega) [] p3 s3 (by simp; omega) (by omega) (by omega)
    rw [← hw] at f
    exact ⟨l, p', s', Ev.opt_bind e1 (Ev.opt_bind e2 (Ev.ite_pos rfl (Ev.opt_bind e3 (Ev.step (fun k => by rw [spec_l1Cur_plan.j0]) f)))), g1, by omega, by omega⟩
theorem wrapS (t : Nat) (h : t ≤ 1000) : wrap64 ((t : Int) + 1) = ((t + 1 : Nat) : Int) := by rw [w64 (by omega) (by omega)]; omega
theorem wrapP (t : Nat) (h : 0 < t) (h2 : t ≤ 1000) : wrap64 ((t : Int) - 1) = ((t - 1 : Nat) : Int) := by rw [w64 (by omega) (by omega)]; omega
set_option maxHeartbeats 1000000 in
theorem over_tries {c : List Int} (hc : Code c) (l : List S53) (hl : 0 < l.length) (hl2 : l.length ≤ 25) (acc : List Int) (hacc : acc.length ≤ 8) (hall : ∀ j : Nat, j < acc.length → 0 ≤ rd acc (j : Int) ∧ rd acc (j : Int) < (l.length : Int)) (m : Int) (q : Int)
    (next : ∀ (v p s : Int), 0 ≤ v → v < (l.length : Int) → 0 ≤ p → p ≤ q → ∃ out p' s', Ev (fun k => spec_l1Cur_over.l0 k l (acc ++ [v]) (wrap64 (m - 1)) c p s) (out, p', s') ∧ out.length ≤ 8 ∧ 0 ≤ p' ∧ p' ≤ 4611686018427300000) (d : Nat) :
    ∀ (t : Nat) (v p s : Int), t ≤ 12 → 12 - t = d → 0 ≤ v → v < (l.length : Int) → 0 ≤ p → p + 2 * d ≤ q → q ≤ 4611686018427300000 →
    ∃ out p' s', Ev (fun k => spec_l1Cur_over.l1 k l acc m v (t : Int) c p s) (out, p', s') ∧ out.length ≤ 8 ∧ 0 ≤ p' ∧ p' ≤ 4611686018427300000 := by
  have room : acc.length < 17592186044416 := by omega
  induction d with
  | zero =>
    intro t v p s ht hd v0 v1 p0 p1 hq
    obtain ⟨out, p', s', f, g⟩ := next v p s v0 v1 p0 (by omega)
    exact ⟨out, p', s', Ev.step (fun k => by rw [spec_l1Cur_over.l1]) (Ev.ite_neg (by omega) (Ev.ite_pos room f)), g⟩
  | succ d ih =>
    intro t v p s ht hd v0 v1 p0 p1 hq
    have t12 : (t : Int) < 12 := by omega
    have t13 : t + 1 ≤ 12 := by omega
    have t14 : 12 - (t + 1) = d := by omega
    have hpq : p ≤ q := by omega
    obtain ⟨v2, p2, s2, e2, w0, w1, r0, r1⟩ := pick_val hc (p := p) s (l.length : Int) p0 (by omega)
    have w2 : v2 < (l.length : Int) := by omega
    have p20 : 0 ≤ p2 := by omega
    have p21 : p2 + 2 * (d : Int) ≤ q := by omega
    clear w1 r0 r1 p1
    obtain ⟨out, p', s', f, g⟩ := next v p s v0 v1 p0 hpq
    obtain ⟨out2, p3, s3, f2, g2⟩ := ih (t + 1) v2 p2 s2 t13 t14 w0 w2 p20 p21 hq
    rw [← wrapS t (by omega)] at f2
    by_cases hz : (acc.length : Int) > 0
    case neg =>
      refine ⟨out, p', s', Ev.step (fun k => by rw [spec_l1Cur_over.l1]) ?_, g⟩
      exact Ev.ite_pos t12 (Ev.ite_neg hz (Ev.ite_pos room f))
    have hlt : acc.length - 1 < acc.length := by omega
    have hw2 := wrapP acc.length (by omega) (by omega)
    obtain ⟨k0, k1⟩ := hall (acc.length - 1) hlt
    rw [← hw2] at k0 k1
    have m0 : 0 ≤ wrap64 ((acc.length : Int) - 1) := by rw [hw2]; exact Int.natCast_nonneg _
    have m1 : wrap64 ((acc.length : Int) - 1) < (acc.length : Int) := by rw [hw2]; exact Int.ofNat_lt.mpr hlt
    by_cases e : (rd_T53 l v).f0 = (rd_T53 l (rd acc (wrap64 ((acc.length : Int) - 1)))).f1
    · refine ⟨out, p', s', Ev.step (fun k => by rw [spec_l1Cur_over.l1]) ?_, g⟩
      refine Ev.ite_pos t12 (Ev.ite_pos hz (Ev.ite_pos v0 (Ev.ite_pos v1 ?_)))
      exact Ev.ite_pos m0 (Ev.ite_pos m1 (Ev.ite_pos k0 (Ev.ite_pos k1 (Ev.ite_pos e (Ev.ite_pos room f)))))
    · refine ⟨out2, p3, s3, Ev.step (fun k => by rw [spec_l1Cur_over.l1]) ?_, g2⟩
      refine Ev.ite_pos t12 (Ev.ite_pos hz (Ev.ite_pos v0 (Ev.ite_pos v1 ?_)))
      exact Ev.ite_pos m0 (Ev.ite_pos m1 (Ev.ite_pos k0 (Ev.ite_pos k1 (Ev.ite_neg e (Ev.opt_bind e2 f2)))))
set_option maxHeartbeats 1000000 in
theorem over_go {c : List Int} (hc : Code c) (l : List S53) (hl2 : l.length ≤ 25) (n : Nat) (hn : n ≤ 4) : ∀ (acc : List Int) (p s : Int), acc.length + n ≤ 8 → (∀ j : Nat, j < acc.length → 0 ≤ rd acc (j : Int) ∧ rd acc (j : Int) < (l.length : Int)) → 0 ≤ p → p ≤ 10000 - 100 * n →
    ∃ out p' s', Ev (fun k => spec_l1Cur_over.l0 k l acc (n : Int) c p s) (out, p', s') ∧ out.length ≤ 8 ∧ 0 ≤ p' ∧ p' ≤ 4611686018427300000 := by
  induction n with
  | zero =>
    intro acc p s ha hall p0 p1
    refine ⟨acc, p, s, Ev.step (fun k => by rw [spec_l1Cur_over.l0]) (Ev.ite_neg (by decide) (Ev.step (fun k => by rw [spec_l1Cur_over.j1]) ?_)), by omega, by omega, by omega⟩
    exact Ev.ite_neg (by decide) (Ev.now _)
  | succ n ih =>
    intro acc p s ha hall p0 p1
    have hw : wrap64 (((n + 1 : Nat) : Int) - 1) = (n : Int) := by rw [w64 (by omega) (by omega)]; omega
    have open_ : ∀ {r}, Ev (fun k => spec_l1Cur_over.j1 k l acc ((n + 1 : Nat) : Int) (decide ((l.length : Int) > 0)) c p s) r → Ev (fun k => spec_l1Cur_over.l0 k l acc ((n + 1 : Nat) : Int) c p s) r := fun {r} h => Ev.step (r := r) (fun k => by rw [spec_l1Cur_over.l0]) (Ev.ite_pos (by omega) h)
    by_cases hz : (l.length : Int) > 0
    · rw [decide_eq_true hz] at open_
      obtain ⟨v, p2, s2, e2, w0, w1, r0, r1⟩ := pick_val hc (p := p) s (l.length : Int) p0 (by omega)
      obtain ⟨out, p', s', f, g⟩ := over_tries hc l (by omega) hl2 acc (by omega) hall ((n + 1 : Nat) : Int) (10000 - 100 * n) (fun v p s v0 v1 q0 q1 => by
        have := ih (by omega) (acc ++ [v]) p s (by simp; omega) (fun j hj => by
          rw [List.length_append, List.length_singleton] at hj
          by_cases e : j < acc.length
          · rw [rd_eq _ j (by simp; omega), List.getElem_append_left e, ← rd_eq acc j e]
            exact hall j e
          · obtain rfl : j = acc.length := by omega
            rw [rd_eq _ acc.length (by simp)]
            simp only [List.getElem_concat_length]
            exact ⟨v0, v1⟩) q0 q1
        rw [← hw] at this
        exact this) 12 0 v p2 s2 (by omega) (by omega) w0 (by omega) (by omega) (by omega) (by omega)
      refine ⟨out, p', s', open_ (Ev.step (fun k => by rw [spec_l1Cur_over.j1]) ?_), g⟩
      exact Ev.ite_pos rfl (Ev.opt_bind e2 f)
    · rw [decide_eq_false hz] at open_
      refine ⟨acc, p, s, open_ (Ev.step (fun k => by rw [spec_l1Cur_over.j1]) ?_), by omega, by omega, by omega⟩
      exact Ev.ite_neg (by decide) (Ev.now _)
theorem over_val' {c : List Int} (hc : Code c) (l : List S53) (hl2 : l.length ≤ 25) (p s : Int) (p0 : 0 ≤ p) (p1 : p ≤ 5000) :
    ∃ out p' s', Ev (fun k => spec_l1Cur_over.f k c p s l) (out, p', s') ∧ out.length ≤ 8 ∧ 0 ≤ p' ∧ p' ≤ 4611686018427300000 := by
  obtain ⟨v, p2, s2, e2, w0, w1, r0, r1⟩ := pick_val hc (p := p) s 5 p0 (by omega)
  obtain ⟨n, rfl⟩ := Int.eq_ofNat_of_zero_le w0
  obtain ⟨out, p', s', f, g⟩ := over_go hc l hl2 n (by omega) [] p2 s2 (by simp; omega) (fun j hj => by simp at hj) (by omega) (by omega)
  simp only [spec_l1Cur_over.f]
  exact ⟨out, p', s', Ev.opt_bind e2 f, g⟩
theorem FnLatest : Go.Proofs.Ytckndinhkkhonaa.GoalFnLatest.Goal := by
  intro l0 l1 h0 h0' h0'' h1 h1' h1''
  refine Ev.rounds ?_
  have c0 : Code l0 := code_of h0' h0''
  have c1 : Code l1 := code_of h1' h1''
  have next : Ev (fun k => laws_FnLatest.j2 k l1) true := by
    obtain ⟨l, p, s, e1, hl, p0, p1⟩ := plan_val c1
    -- a time
    have when_ : ∃ a p' s', spec_l1Cur_whenTo.f l1 p s = some (a, p', s') := by
      obtain ⟨b, p2, s2, e2, q2, r2⟩ := one_val c1 (p := p) s 20 p0 (by omega)
      unfold spec_l1Cur_whenTo.f
      rw [e2, Option.bind_some]
      cases b with
      | false =>
        obtain ⟨v, p3, s3, e3, _⟩ := pick_val c1 (p := p2) s2 50 (by omega) (by omega)
        simp only
        rw [if_neg (by simp), e3]
        exact ⟨_, _, _, rfl⟩
      | true =>
        obtain ⟨v, p3, s3, e3, _⟩ := among_val c1 (p := p2) s2 ([(-1), 1000, 1001] : List Int) (by decide) (by decide) (by omega) (by omega)
        simp only
        rw [if_pos trivial, e3]
        exact ⟨_, _, _, rfl⟩
    obtain ⟨a, p2, s2, e2⟩ := when_
    have d1 : Ev (fun k => spec_DrawOpenAt.f k l1) (l, a) := by
      simp only [spec_DrawOpenAt.f]
      exact Ev.bind e1 (Ev.opt_bind e2 (Ev.now _))
    obtain ⟨o, p3, s3, e3, ho, q3, r3⟩ := over_val' c1 l hl p s p0 (by omega)
    obtain ⟨b, p4, s4, e4, q4, r4⟩ := one_val c1 (p := p3) s3 12 q3 (by omega)
    have d2 : ∃ o2 : List Int, o2.length ≤ 9 ∧ Ev (fun k => spec_DrawUsesOf.f k l1) (l, o2) := by
      simp only [spec_DrawUsesOf.f]
      cases b with
      | false => exact ⟨o, by omega, Ev.bind e1 (Ev.bind e3 (Ev.opt_bind e4 (Ev.ite_neg (by simp) (Ev.now _))))⟩
      | true =>
        obtain ⟨v, p5, s5, e5, _⟩ := pick_val c1 (p := p4) s4 22 (by omega) (by omega)
        exact ⟨o ++ [wrap64 (v - 1)], by simp; omega, Ev.bind e1 (Ev.bind e3 (Ev.opt_bind e4 (Ev.ite_pos rfl (Ev.opt_bind e5 (Ev.ite_pos (show o.length < 17592186044416 by omega) (Ev.now _))))))⟩
    obtain ⟨o2, ho2, d2⟩ := d2
    obtain ⟨out, ob, x, y, z⟩ := openAt_val l (by omega) a
    obtain ⟨u, x2, y2⟩ := usesOf_val l (by omega) o2 (by omega)
    refine Ev.step (fun k => by rw [laws_FnLatest.j2]) ?_
    refine Ev.bind d1 (Ev.bind y (Ev.bind x (Ev.bind d2 (Ev.bind y2 (Ev.bind x2 ?_)))))
    exact Ev.ite_pos (by simp) (Ev.bind (sameInts_self out (by omega)) (Ev.ite_pos rfl (Ev.ite_pos (by simp) (Ev.now' (by simp)))))
  obtain ⟨l, p, s, e1, hl, p0, p1⟩ := plan_val c0
  obtain ⟨f, p2, s2, e2, _, _, q2, r2⟩ := pick_val c0 (p := p) s 5 p0 (by omega)
  obtain ⟨t, p3, s3, e3, _, _, q3, r3⟩ := pick_val c0 (p := p2) s2 5 (by omega) (by omega)
  obtain ⟨b, p4, s4, e4, _⟩ := among_val c0 (p := p3) s3 ([(-1), 0, 30, 60, 100, 2000, 2001] : List Int) (by decide) (by decide) (by omega) (by omega)
  have d0 : Ev (fun k => spec_DrawLatestFor.f k l0) (l, f, t, b) := by
    simp only [spec_DrawLatestFor.f]
    exact Ev.bind e1 (Ev.opt_bind e2 (Ev.opt_bind e3 (Ev.opt_bind e4 (Ev.now _))))
  obtain ⟨u, x, y, z⟩ := latest_full l (by omega) f t b
  simp only [laws_FnLatest.f]
  refine Ev.ite (fun _ => Ev.now _) fun _ => Ev.bind d0 (Ev.bind y (Ev.bind x (Ev.ite_neg (by simp) ?_)))
  refine Ev.step (fun k => by rw [laws_FnLatest.j0]) ?_
  refine Ev.ite_neg (by simp) (Ev.ite (fun hu => ?_) fun _ => next)
  obtain ⟨hp, hf, ht, u0, u1, ⟨W, L, hW, hW8, w0, w1⟩, hno⟩ := z hu
  have ht' := inB_iff.mp ht
  refine Ev.bind (earliest_at hp hf (inB_iff.mpr ⟨u0, u1⟩) hW) (Ev.ite_pos rfl (Ev.ite_pos ht'.1 (Ev.ite_pos (show t < (W.length : Int) by omega) (Ev.ite_neg (show ¬ rd W t < 0 by omega) ?_))))
  rw [show decide ((rd (W, true).1 t) > b) = false from decide_eq_false (by show ¬ rd W t > b; omega)]
  refine Ev.step (fun k => by rw [laws_FnLatest.j1]) ?_
  refine Ev.ite_neg (by decide) (Ev.ite (fun hlt => ?_) fun _ => next)
  have hf' := inB_iff.mp hf
  obtain ⟨W2, L2, _, hW2, _, y2⟩ := search_val l (planB_ok hp) f (u.1 + 1) ⟨hf'.1, by omega⟩ ⟨by omega, by omega⟩
  have hw : wrap64 (u.1 + 1) = u.1 + 1 := w64 (by omega) (by omega)
  have ea := earliest_at hp hf (inB_iff.mpr ⟨by omega, by omega⟩) y2
  rw [← hw] at ea
  refine Ev.bind ea (Ev.ite_pos rfl (Ev.ite_pos ht'.1 (Ev.ite_pos (show t < (W2.length : Int) by omega) (Ev.ite (fun c1 => Ev.ite_neg (fun c2 => hno hlt ⟨W2, L2, y2, hW2, c1, c2⟩) next) fun _ => next))))
end Go.Proofs.Ytckndinhkkhonaa.Pure
