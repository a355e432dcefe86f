/- What the printed program answers at this law is true, for every argument. -/
import Derived.Test.YtckndinhkkhonaaQFnExactGoodEdgesx2
import Derived.Test.YtckndinhkkhonaaPlain
import Derived.Test.YtckndinhkkhonaaGoalFnExactGoodEdges
set_option linter.unusedVariables false
set_option linter.unusedSimpArgs false
namespace Go.Proofs.Ytckndinhkkhonaa.Pure
open Go.RowKit Go.Proofs.Ytckndinhkkhonaa.QFnExactGoodEdges Go.Proofs.YtckndinhkkhonaaW.PrintWords Go.Proofs.YtckndinhkkhonaaW.PrintLast Go.Proofs.Ytckndinhkkhonaa.Plain Go.Proofs.Ytckndinhkkhonaa.GoalFnExactGoodEdges

theorem rdEdgeL_eq (l : List S99) (i : Nat) (h : i < l.length) : rd_T99 l (i : Int) = l[i] := by
  simp [rd_T99, List.getD_eq_getElem?_getD, List.getElem?_eq_getElem h]
theorem rdEdge_eq (l : List S97) (i : Nat) (h : i < l.length) : rd_T97 l (i : Int) = l[i] := by
  simp [rd_T97, List.getD_eq_getElem?_getD, List.getElem?_eq_getElem h]
def edgeOf (x : S99) : S97 := ⟨x.f0, x.f1, x.f2⟩
theorem szEdgeS_val (l : List S99) (hl : l.length ≤ maxLen) : ∃ r, laws_szEdgeS.f l 1048576 = some r ∧ (0 ≤ r → l.length ≤ 1048576) := by
  unfold maxLen at hl
  have hw : wrap64 (1048576 - (l.length : Int)) = 1048576 - (l.length : Int) := w64 (by omega) (by omega)
  unfold laws_szEdgeS.f
  rw [hw]
  by_cases h : 1048576 - (l.length : Int) < 0
  · rw [if_pos h]; exact ⟨_, rfl, fun h => by omega⟩
  · rw [if_neg h]; exact ⟨_, rfl, fun h => by omega⟩
theorem toEdgeS_go (l : List S99) (hl : l.length ≤ 1048576) (d : Nat) : ∀ i : Nat, i ≤ l.length → l.length - i = d → Ev (fun k => laws_toEdgeS.l0 k l ((l.map edgeOf).take i ++ List.replicate ((l.map edgeOf).length - i) z97) (i : Int)) (l.map edgeOf) := by
  induction d with
  | zero =>
    intro i h0 hd
    obtain rfl : i = l.length := by omega
    refine Ev.step (fun k => by rw [laws_toEdgeS.l0]) ?_
    exact Ev.ite_neg (by omega) (Ev.now' (by rw [List.length_map, Nat.sub_self, List.replicate_zero, List.append_nil, List.take_of_length_le (by simp)]))
  | succ d ih =>
    intro i h0 hd
    have hlt : i < l.length := by omega
    have hlt2 : i < (l.map edgeOf).length := by simpa using hlt
    have hw : wrap64 ((i : Int) + 1) = ((i + 1 : Nat) : Int) := by rw [w64 (by omega) (by omega)]; omega
    have hlen : ((l.map edgeOf).take i ++ List.replicate ((l.map edgeOf).length - i) z97).length = l.length := by simp; omega
    have a := ih (i + 1) (by omega) (by omega)
    rw [← fill_step (l.map edgeOf) z97 i hlt2] at a
    refine Ev.step (fun k => by rw [laws_toEdgeS.l0]) ?_
    refine Ev.ite_pos (by omega) (Ev.ite_pos (by omega) ?_)
    simp only [laws_toEdge.f, Option.bind_some, hw, Int.toNat_natCast, rdEdgeL_eq l i hlt]
    refine Ev.ite_pos (by rw [hlen]; omega) ?_
    have e : (l.map edgeOf)[i] = (⟨l[i].f0, l[i].f1, l[i].f2⟩ : S97) := by simp [edgeOf]
    rw [e] at a
    exact a
theorem toEdgeS_val (l : List S99) (hl : l.length ≤ 1048576) : Ev (fun k => laws_toEdgeS.f k l) (l.map edgeOf) := by
  have := toEdgeS_go l hl l.length 0 (by omega) (by omega)
  simp only [laws_toEdgeS.f, Int.toNat_natCast]
  refine Ev.ite_pos (by omega) (Ev.ite_pos (by omega) ?_)
  simpa using this
theorem eqEdgeS_go (l : List S97) (hl : l.length ≤ 1048576) (d : Nat) : ∀ i : Nat, l.length - i = d → Ev (fun k => laws_eqEdgeS.l0 k l l (i : Int)) true := by
  induction d with
  | zero =>
    intro i hd
    refine Ev.step (fun k => by rw [laws_eqEdgeS.l0]) ?_
    exact Ev.ite_neg (by omega) (Ev.now _)
  | succ d ih =>
    intro i hd
    have hw : wrap64 ((i : Int) + 1) = ((i + 1 : Nat) : Int) := by rw [w64 (by omega) (by omega)]; omega
    refine Ev.step (fun k => by rw [laws_eqEdgeS.l0]) ?_
    refine Ev.ite_pos (by omega) (Ev.ite_pos (by omega) (Ev.ite_pos (by omega) ?_))
    simp only [laws_eqEdge.f, if_true, Option.bind_some]
    rw [hw]
    exact ih (i + 1) (by omega)
theorem eqEdgeS_self (l : List S97) (hl : l.length ≤ 1048576) : Ev (fun k => laws_eqEdgeS.f k l l) true := by
  simp only [laws_eqEdgeS.f, if_true]
  exact eqEdgeS_go l hl l.length 0 (by omega)
def edgesB (l : List S97) : Bool := decide ((l.length : Int) ≤ 24) && !l.any badE
theorem e6Node_val (n : Int) : spec_l6Node.f n = some (inE n 0 7) := by
  unfold spec_l6Node.f inE
  by_cases h : n ≥ 0
  · rw [if_pos h]; simp only [show (0 : Int) ≤ n from h, decide_true, Bool.true_and]; congr 1; exact decide_eq_decide.mpr (by omega)
  · rw [if_neg h]; simp only [show ¬ (0 : Int) ≤ n from h, decide_false, Bool.false_and]
theorem e1In_val (n a b : Int) : spec_l1In.f n a b = some (inE n a b) := by
  unfold spec_l1In.f inE
  by_cases h : n ≥ a
  · rw [if_pos h]; simp only [show a ≤ n from h, decide_true, Bool.true_and]
  · rw [if_neg h]; simp only [show ¬ a ≤ n from h, decide_false, Bool.false_and]
theorem badE_iff (x : S97) : badE x = false ↔ inE x.f0 0 7 = true ∧ inE x.f1 0 7 = true ∧ x.f0 ≠ x.f1 ∧ inE x.f2 0 1000 = true := by
  simp only [badE, unlikeE, inE, Bool.or_eq_false_iff, Bool.not_eq_false', Bool.and_eq_true, decide_eq_true_eq, ne_eq]
  omega
theorem goodEdges_go (l : List S97) (hl : l.length ≤ 1048576) (d : Nat) : ∀ i : Nat, i ≤ l.length → l.length - i = d → (l.take i).any badE = false → Ev (fun k => spec_GoodEdges.l0 k l l (l.length : Int) (i : Int)) (edgesB l) := by
  induction d with
  | zero =>
    intro i h0 hd hb
    refine Ev.step (fun k => by rw [spec_GoodEdges.l0]) ?_
    obtain rfl : i = l.length := by omega
    rw [List.take_length] at hb
    exact Ev.ite_neg (by omega) (Ev.now' (by rw [edgesB, hb]; simp))
  | succ d ih =>
    intro i h0 hd hb
    have hi : i < l.length := by omega
    have hw : wrap64 ((i : Int) + 1) = ((i + 1 : Nat) : Int) := by rw [w64 (by omega) (by omega)]; omega
    refine Ev.step (fun k => by rw [spec_GoodEdges.l0]) ?_
    refine Ev.ite_pos (by omega) (Ev.ite_pos (by omega) (Ev.ite_pos (by omega) ?_))
    simp only [rdEdge_eq l i hi, e6Node_val, e1In_val, Option.bind_some, hw]
    have hm : l[i] ∈ l := List.getElem_mem hi
    have bad : badE l[i] = true → edgesB l = false := fun h => by
      rw [edgesB, List.any_eq_true.mpr ⟨_, hm, h⟩]; simp
    have ht : badE l[i] = false → (l.take (i + 1)).any badE = false := fun h => by
      rw [List.take_succ_eq_append_getElem hi, List.any_append, hb]; simp [h]
    have next := fun h => ih (i + 1) (by omega) (by omega) (ht h)
    have key := badE_iff l[i]
    generalize l[i] = x at bad next key
    cases hq : badE x with
    | true =>
      rw [bad hq]
      have hk : ¬ (inE x.f0 0 7 = true ∧ inE x.f1 0 7 = true ∧ x.f0 ≠ x.f1 ∧ inE x.f2 0 1000 = true) := fun h => by rw [key.mpr h] at hq; cases hq
      refine Ev.ite (fun a1 => Ev.ite (fun a2 => Ev.ite (fun a3 => Ev.now _) fun a3 => Ev.ite (fun a7 => absurd ⟨a1, a2, a3, a7⟩ hk) fun a7 => Ev.now _) fun a2 => Ev.now _) fun a1 => Ev.now _
    | false =>
      obtain ⟨a1, a2, a3, a7⟩ := key.mp hq
      exact Ev.ite_pos a1 (Ev.ite_pos a2 (Ev.ite_neg a3 (Ev.ite_pos a7 (next hq))))
theorem specEdges_val (l : List S97) (hl : l.length ≤ 1048576) : Ev (fun k => spec_GoodEdges.f k l) (edgesB l) := by
  simp only [spec_GoodEdges.f]
  exact goodEdges_go l hl l.length 0 (by omega) (by omega) (by simp)
theorem implEdges_val (l : List S97) : impl_GoodEdges.f l = some (edgesB l) := rfl
theorem FnExactGoodEdges : Go.Proofs.Ytckndinhkkhonaa.GoalFnExactGoodEdges.Goal := by
  intro l h0 _ h1
  refine Ev.rounds ?_
  obtain ⟨r, hr, hr2⟩ := szEdgeS_val l h0
  simp only [laws_FnExactGoodEdges.f]
  refine Ev.opt_bind hr (Ev.ite (fun _ => Ev.now _) fun hn => ?_)
  have hl := hr2 (by omega)
  have hl2 : (l.map edgeOf).length ≤ 1048576 := by simpa using hl
  refine Ev.bind (toEdgeS_val l hl) (Ev.bind (specEdges_val _ hl2) (Ev.bind (toEdgeS_val l hl) (Ev.opt_bind (implEdges_val _) ?_)))
  refine Ev.ite_neg (by simp) (Ev.bind (toEdgeS_val l hl) (Ev.bind (eqEdgeS_self _ hl2) ?_))
  exact Ev.now' (by simp)

end Go.Proofs.Ytckndinhkkhonaa.Pure
