/- What the printed program answers at this law is true, for every argument. -/
import Derived.Test.YtckndinhkkhonaaQFnExactGoodPlanx2
import Derived.Test.YtckndinhkkhonaaPlain
import Derived.Test.YtckndinhkkhonaaGoalFnExactGoodPlan
set_option linter.unusedVariables false
set_option linter.unusedSimpArgs false
namespace Go.Proofs.Ytckndinhkkhonaa.Pure
open Go.RowKit Go.Proofs.Ytckndinhkkhonaa.QFnExactGoodPlan Go.Proofs.YtckndinhkkhonaaW.PrintWords Go.Proofs.YtckndinhkkhonaaW.PrintLast Go.Proofs.Ytckndinhkkhonaa.Plain Go.Proofs.Ytckndinhkkhonaa.GoalFnExactGoodPlan

theorem rdContactL_eq (l : List S75) (i : Nat) (h : i < l.length) : rd_T75 l (i : Int) = l[i] := by
  simp [rd_T75, List.getD_eq_getElem?_getD, List.getElem?_eq_getElem h]
theorem rdContact_eq (l : List S53) (i : Nat) (h : i < l.length) : rd_T53 l (i : Int) = l[i] := by
  simp [rd_T53, List.getD_eq_getElem?_getD, List.getElem?_eq_getElem h]
def contactOf (x : S75) : S53 := ⟨x.f0, x.f1, x.f2, x.f3, x.f4⟩
theorem szContactS_val (l : List S75) (hl : l.length ≤ maxLen) : ∃ r, laws_szContactS.f l 1048576 = some r ∧ (0 ≤ r → l.length ≤ 1048576) := by
  unfold maxLen at hl
  have hw : wrap64 (1048576 - (l.length : Int)) = 1048576 - (l.length : Int) := w64 (by omega) (by omega)
  unfold laws_szContactS.f
  rw [hw]
  by_cases h : 1048576 - (l.length : Int) < 0
  · rw [if_pos h]; exact ⟨_, rfl, fun h => by omega⟩
  · rw [if_neg h]; exact ⟨_, rfl, fun h => by omega⟩
theorem toContactS_go (l : List S75) (hl : l.length ≤ 1048576) (d : Nat) : ∀ i : Nat, i ≤ l.length → l.length - i = d → Ev (fun k => laws_toContactS.l0 k l ((l.map contactOf).take i ++ List.replicate ((l.map contactOf).length - i) z53) (i : Int)) (l.map contactOf) := by
  induction d with
  | zero =>
    intro i h0 hd
    obtain rfl : i = l.length := by omega
    refine Ev.step (fun k => by rw [laws_toContactS.l0]) ?_
    exact Ev.ite_neg (by omega) (Ev.now' (by rw [List.length_map, Nat.sub_self, List.replicate_zero, List.append_nil, List.take_of_length_le (by simp)]))
  | succ d ih =>
    intro i h0 hd
    have hlt : i < l.length := by omega
    have hlt2 : i < (l.map contactOf).length := by simpa using hlt
    have hw : wrap64 ((i : Int) + 1) = ((i + 1 : Nat) : Int) := by rw [w64 (by omega) (by omega)]; omega
    have hlen : ((l.map contactOf).take i ++ List.replicate ((l.map contactOf).length - i) z53).length = l.length := by simp; omega
    have a := ih (i + 1) (by omega) (by omega)
    rw [← fill_step (l.map contactOf) z53 i hlt2] at a
    refine Ev.step (fun k => by rw [laws_toContactS.l0]) ?_
    refine Ev.ite_pos (by omega) (Ev.ite_pos (by omega) ?_)
    simp only [laws_toContact.f, Option.bind_some, hw, Int.toNat_natCast, rdContactL_eq l i hlt]
    refine Ev.ite_pos (by rw [hlen]; omega) ?_
    have e : (l.map contactOf)[i] = (⟨l[i].f0, l[i].f1, l[i].f2, l[i].f3, l[i].f4⟩ : S53) := by simp [contactOf]
    rw [e] at a
    exact a
theorem toContactS_val (l : List S75) (hl : l.length ≤ 1048576) : Ev (fun k => laws_toContactS.f k l) (l.map contactOf) := by
  have := toContactS_go l hl l.length 0 (by omega) (by omega)
  simp only [laws_toContactS.f, Int.toNat_natCast]
  refine Ev.ite_pos (by omega) (Ev.ite_pos (by omega) ?_)
  simpa using this
theorem eqContactS_go (l : List S53) (hl : l.length ≤ 1048576) (d : Nat) : ∀ i : Nat, l.length - i = d → Ev (fun k => laws_eqContactS.l0 k l l (i : Int)) true := by
  induction d with
  | zero =>
    intro i hd
    refine Ev.step (fun k => by rw [laws_eqContactS.l0]) ?_
    exact Ev.ite_neg (by omega) (Ev.now _)
  | succ d ih =>
    intro i hd
    have hw : wrap64 ((i : Int) + 1) = ((i + 1 : Nat) : Int) := by rw [w64 (by omega) (by omega)]; omega
    refine Ev.step (fun k => by rw [laws_eqContactS.l0]) ?_
    refine Ev.ite_pos (by omega) (Ev.ite_pos (by omega) (Ev.ite_pos (by omega) ?_))
    simp only [laws_eqContact.f, if_true, Option.bind_some]
    rw [hw]
    exact ih (i + 1) (by omega)
theorem eqContactS_self (l : List S53) (hl : l.length ≤ 1048576) : Ev (fun k => laws_eqContactS.f k l l) true := by
  simp only [laws_eqContactS.f, if_true]
  exact eqContactS_go l hl l.length 0 (by omega)
/-- Whether contacts are a plan. -/
def planB (l : List S53) : Bool := decide ((l.length : Int) ≤ 20) && !l.any badC
theorem l6Node_val (n : Int) : spec_l6Node.f n = some (inB n 0 7) := by
  unfold spec_l6Node.f inB
  by_cases h : n ≥ 0
  · rw [if_pos h]; simp only [show (0 : Int) ≤ n from h, decide_true, Bool.true_and]; congr 1; exact decide_eq_decide.mpr (by omega)
  · rw [if_neg h]; simp only [show ¬ (0 : Int) ≤ n from h, decide_false, Bool.false_and]
theorem l1In_val (n a b : Int) : spec_l1In.f n a b = some (inB n a b) := by
  unfold spec_l1In.f inB
  by_cases h : n ≥ a
  · rw [if_pos h]; simp only [show a ≤ n from h, decide_true, Bool.true_and]
  · rw [if_neg h]; simp only [show ¬ a ≤ n from h, decide_false, Bool.false_and]
theorem l6When_val (n : Int) : spec_l6When.f n = some (inB n 0 1000) := by
  unfold spec_l6When.f
  rw [l1In_val]; rfl
theorem badC_iff (x : S53) : badC x = false ↔ inB x.f0 0 7 = true ∧ inB x.f1 0 7 = true ∧ x.f0 ≠ x.f1 ∧ inB x.f3 0 1000 = true ∧ ¬ x.f2 < 0 ∧ ¬ x.f2 ≥ x.f3 ∧ inB x.f4 0 100 = true := by
  simp only [badC, unlikeB, inB, Bool.or_eq_false_iff, Bool.not_eq_false', Bool.and_eq_true, decide_eq_true_eq, decide_eq_false_iff_not, ne_eq]
  omega
theorem goodPlan_go (l : List S53) (hl : l.length ≤ 1048576) (d : Nat) : ∀ i : Nat, i ≤ l.length → l.length - i = d → (l.take i).any badC = false → Ev (fun k => spec_GoodPlan.l0 k l l (l.length : Int) (i : Int)) (planB l) := by
  induction d with
  | zero =>
    intro i h0 hd hb
    refine Ev.step (fun k => by rw [spec_GoodPlan.l0]) ?_
    obtain rfl : i = l.length := by omega
    rw [List.take_length] at hb
    exact Ev.ite_neg (by omega) (Ev.now' (by rw [planB, hb]; simp))
  | succ d ih =>
    intro i h0 hd hb
    have hi : i < l.length := by omega
    have hw : wrap64 ((i : Int) + 1) = ((i + 1 : Nat) : Int) := by rw [w64 (by omega) (by omega)]; omega
    refine Ev.step (fun k => by rw [spec_GoodPlan.l0]) ?_
    refine Ev.ite_pos (by omega) (Ev.ite_pos (by omega) (Ev.ite_pos (by omega) ?_))
    simp only [rdContact_eq l i hi, l6Node_val, l6When_val, l1In_val, Option.bind_some, hw]
    have hm : l[i] ∈ l := List.getElem_mem hi
    have bad : badC l[i] = true → planB l = false := fun h => by
      rw [planB, List.any_eq_true.mpr ⟨_, hm, h⟩]; simp
    have ht : badC l[i] = false → (l.take (i + 1)).any badC = false := fun h => by
      rw [List.take_succ_eq_append_getElem hi, List.any_append, hb]; simp [h]
    have next := fun h => ih (i + 1) (by omega) (by omega) (ht h)
    have key := badC_iff l[i]
    generalize l[i] = x at bad next key
    cases hq : badC x with
    | true =>
      rw [bad hq]
      have hk : ¬ (inB x.f0 0 7 = true ∧ inB x.f1 0 7 = true ∧ x.f0 ≠ x.f1 ∧ inB x.f3 0 1000 = true ∧ ¬ x.f2 < 0 ∧ ¬ x.f2 ≥ x.f3 ∧ inB x.f4 0 100 = true) := fun h => by rw [key.mpr h] at hq; cases hq
      refine Ev.ite (fun a1 => Ev.ite (fun a2 => Ev.ite (fun a3 => Ev.now _) fun a3 => Ev.ite (fun a4 => Ev.ite (fun a5 => Ev.now _) fun a5 => Ev.ite (fun a6 => Ev.now _) fun a6 => Ev.ite (fun a7 => absurd ⟨a1, a2, a3, a4, a5, a6, a7⟩ hk) fun a7 => Ev.now _) fun a4 => Ev.now _) fun a2 => Ev.now _) fun a1 => Ev.now _
    | false =>
      obtain ⟨a1, a2, a3, a4, a5, a6, a7⟩ := key.mp hq
      exact Ev.ite_pos a1 (Ev.ite_pos a2 (Ev.ite_neg a3 (Ev.ite_pos a4 (Ev.ite_neg a5 (Ev.ite_neg a6 (Ev.ite_pos a7 (next hq)))))))
theorem specPlan_val (l : List S53) (hl : l.length ≤ 1048576) : Ev (fun k => spec_GoodPlan.f k l) (planB l) := by
  simp only [spec_GoodPlan.f]
  exact goodPlan_go l hl l.length 0 (by omega) (by omega) (by simp)
theorem implPlan_val (l : List S53) : impl_GoodPlan.f l = some (planB l) := rfl
theorem FnExactGoodPlan : Go.Proofs.Ytckndinhkkhonaa.GoalFnExactGoodPlan.Goal := by
  intro l h0 _ h1
  refine Ev.rounds ?_
  obtain ⟨r, hr, hr2⟩ := szContactS_val l h0
  simp only [laws_FnExactGoodPlan.f]
  refine Ev.opt_bind hr (Ev.ite (fun _ => Ev.now _) fun hn => ?_)
  have hl := hr2 (by omega)
  have hl2 : (l.map contactOf).length ≤ 1048576 := by simpa using hl
  refine Ev.bind (toContactS_val l hl) (Ev.bind (specPlan_val _ hl2) (Ev.bind (toContactS_val l hl) (Ev.opt_bind (implPlan_val _) ?_)))
  refine Ev.ite_neg (by simp) (Ev.bind (toContactS_val l hl) (Ev.bind (eqContactS_self _ hl2) ?_))
  exact Ev.now' (by simp)

end Go.Proofs.Ytckndinhkkhonaa.Pure
