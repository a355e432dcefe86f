/- What the printed program answers at this law is true, for every argument. -/
import Derived.Test.YtckndinhkkhonaaQFnExactOpenAtx4
import Derived.Test.YtckndinhkkhonaaPlain
import Derived.Test.YtckndinhkkhonaaGoalFnExactOpenAt
set_option linter.unusedVariables false
set_option linter.unusedSimpArgs false
namespace Go.Proofs.Ytckndinhkkhonaa.Pure
open Go.RowKit Go.Proofs.Ytckndinhkkhonaa.QFnExactOpenAt Go.Proofs.YtckndinhkkhonaaW.PrintWords Go.Proofs.YtckndinhkkhonaaW.PrintLast Go.Proofs.Ytckndinhkkhonaa.Plain Go.Proofs.Ytckndinhkkhonaa.GoalFnExactOpenAt

theorem rdContactL_eq (l : List S75) (i : Nat) (h : i < l.length) : rd_T75 l (i : Int) = l[i] := by
  simp [rd_T75, List.getD_eq_getElem?_getD, List.getElem?_eq_getElem h]
theorem rdContact_eq (l : List S53) (i : Nat) (h : i < l.length) : rd_T53 l (i : Int) = l[i] := by
  simp [rd_T53, List.getD_eq_getElem?_getD, List.getElem?_eq_getElem h]
def contactOf (x : S75) : S53 := ⟨x.f0, x.f1, x.f2, x.f3, x.f4⟩
theorem szContactS_val (l : List S75) (hl : l.length ≤ maxLen) : ∃ r, laws_szContactS.f l 1048576 = some r ∧ (0 ≤ r → l.length ≤ 1048576) := by
  unfold maxLen at hl
  have hw : wrap64 (1048576 - (l.length : Int)) = 1048576 - (l.length : Int) := w64 (by omega) (by omega)
  unfold laws_szContactS.f
  rw [hw]
  by_cases h : 1048576 - (l.length : Int) < 0
  · rw [if_pos h]; exact ⟨_, rfl, fun h => by omega⟩
  · rw [if_neg h]; exact ⟨_, rfl, fun h => by omega⟩
theorem toContactS_go (l : List S75) (hl : l.length ≤ 1048576) (d : Nat) : ∀ i : Nat, i ≤ l.length → l.length - i = d → Ev (fun k => laws_toContactS.l0 k l ((l.map contactOf).take i ++ List.replicate ((l.map contactOf).length - i) z53) (i : Int)) (l.map contactOf) := by
  induction d with
  | zero =>
    intro i h0 hd
    obtain rfl : i = l.length := by omega
    refine Ev.step (fun k => by rw [laws_toContactS.l0]) ?_
    exact Ev.ite_neg (by omega) (Ev.now' (by rw [List.length_map, Nat.sub_self, List.replicate_zero, List.append_nil, List.take_of_length_le (by simp)]))
  | succ d ih =>
    intro i h0 hd
    have hlt : i < l.length := by omega
    have hlt2 : i < (l.map contactOf).length := by simpa using hlt
    have hw : wrap64 ((i : Int) + 1) = ((i + 1 : Nat) : Int) := by rw [w64 (by omega) (by omega)]; omega
    have hlen : ((l.map contactOf).take i ++ List.replicate ((l.map contactOf).length - i) z53).length = l.length := by simp; omega
    have a := ih (i + 1) (by omega) (by omega)
    rw [← fill_step (l.map contactOf) z53 i hlt2] at a
    refine Ev.step (fun k => by rw [laws_toContactS.l0]) ?_
    refine Ev.ite_pos (by omega) (Ev.ite_pos (by omega) ?_)
    simp only [laws_toContact.f, Option.bind_some, hw, Int.toNat_natCast, rdContactL_eq l i hlt]
    refine Ev.ite_pos (by rw [hlen]; omega) ?_
    have e : (l.map contactOf)[i] = (⟨l[i].f0, l[i].f1, l[i].f2, l[i].f3, l[i].f4⟩ : S53) := by simp [contactOf]
    rw [e] at a
    exact a
theorem toContactS_val (l : List S75) (hl : l.length ≤ 1048576) : Ev (fun k => laws_toContactS.f k l) (l.map contactOf) := by
  have := toContactS_go l hl l.length 0 (by omega) (by omega)
  simp only [laws_toContactS.f, Int.toNat_natCast]
  refine Ev.ite_pos (by omega) (Ev.ite_pos (by omega) ?_)
  simpa using this
theorem eqContactS_go (l : List S53) (hl : l.length ≤ 1048576) (d : Nat) : ∀ i : Nat, l.length - i = d → Ev (fun k => laws_eqContactS.l0 k l l (i : Int)) true := by
  induction d with
  | zero =>
    intro i hd
    refine Ev.step (fun k => by rw [laws_eqContactS.l0]) ?_
    exact Ev.ite_neg (by omega) (Ev.now _)
  | succ d ih =>
    intro i hd
    have hw : wrap64 ((i : Int) + 1) = ((i + 1 : Nat) : Int) := by rw [w64 (by omega) (by omega)]; omega
    refine Ev.step (fun k => by rw [laws_eqContactS.l0]) ?_
    refine Ev.ite_pos (by omega) (Ev.ite_pos (by omega) (Ev.ite_pos (by omega) ?_))
    simp only [laws_eqContact.f, if_true, Option.bind_some]
    rw [hw]
    exact ih (i + 1) (by omega)
theorem eqContactS_self (l : List S53) (hl : l.length ≤ 1048576) : Ev (fun k => laws_eqContactS.f k l l) true := by
  simp only [laws_eqContactS.f, if_true]
  exact eqContactS_go l hl l.length 0 (by omega)
/-- Whether contacts are a plan. -/
def planB (l : List S53) : Bool := decide ((l.length : Int) ≤ 20) && !l.any badC
theorem l6Node_val (n : Int) : spec_l6Node.f n = some (inB n 0 7) := by
  unfold spec_l6Node.f inB
  by_cases h : n ≥ 0
  · rw [if_pos h]; simp only [show (0 : Int) ≤ n from h, decide_true, Bool.true_and]; congr 1; exact decide_eq_decide.mpr (by omega)
  · rw [if_neg h]; simp only [show ¬ (0 : Int) ≤ n from h, decide_false, Bool.false_and]
theorem l1In_val (n a b : Int) : spec_l1In.f n a b = some (inB n a b) := by
  unfold spec_l1In.f inB
  by_cases h : n ≥ a
  · rw [if_pos h]; simp only [show a ≤ n from h, decide_true, Bool.true_and]
  · rw [if_neg h]; simp only [show ¬ a ≤ n from h, decide_false, Bool.false_and]
theorem l6When_val (n : Int) : spec_l6When.f n = some (inB n 0 1000) := by
  unfold spec_l6When.f
  rw [l1In_val]; rfl
theorem badC_iff (x : S53) : badC x = false ↔ inB x.f0 0 7 = true ∧ inB x.f1 0 7 = true ∧ x.f0 ≠ x.f1 ∧ inB x.f3 0 1000 = true ∧ ¬ x.f2 < 0 ∧ ¬ x.f2 ≥ x.f3 ∧ inB x.f4 0 100 = true := by
  simp only [badC, unlikeB, inB, Bool.or_eq_false_iff, Bool.not_eq_false', Bool.and_eq_true, decide_eq_true_eq, decide_eq_false_iff_not, ne_eq]
  omega
theorem goodPlan_go (l : List S53) (hl : l.length ≤ 1048576) (d : Nat) : ∀ i : Nat, i ≤ l.length → l.length - i = d → (l.take i).any badC = false → Ev (fun k => spec_GoodPlan.l0 k l l (l.length : Int) (i : Int)) (planB l) := by
  induction d with
  | zero =>
    intro i h0 hd hb
    refine Ev.step (fun k => by rw [spec_GoodPlan.l0]) ?_
    obtain rfl : i = l.length := by omega
    rw [List.take_length] at hb
    exact Ev.ite_neg (by omega) (Ev.now' (by rw [planB, hb]; simp))
  | succ d ih =>
    intro i h0 hd hb
    have hi : i < l.length := by omega
    have hw : wrap64 ((i : Int) + 1) = ((i + 1 : Nat) : Int) := by rw [w64 (by omega) (by omega)]; omega
    refine Ev.step (fun k => by rw [spec_GoodPlan.l0]) ?_
    refine Ev.ite_pos (by omega) (Ev.ite_pos (by omega) (Ev.ite_pos (by omega) ?_))
    simp only [rdContact_eq l i hi, l6Node_val, l6When_val, l1In_val, Option.bind_some, hw]
    have hm : l[i] ∈ l := List.getElem_mem hi
    have bad : badC l[i] = true → planB l = false := fun h => by
      rw [planB, List.any_eq_true.mpr ⟨_, hm, h⟩]; simp
    have ht : badC l[i] = false → (l.take (i + 1)).any badC = false := fun h => by
      rw [List.take_succ_eq_append_getElem hi, List.any_append, hb]; simp [h]
    have next := fun h => ih (i + 1) (by omega) (by omega) (ht h)
    have key := badC_iff l[i]
    generalize l[i] = x at bad next key
    cases hq : badC x with
    | true =>
      rw [bad hq]
      have hk : ¬ (inB x.f0 0 7 = true ∧ inB x.f1 0 7 = true ∧ x.f0 ≠ x.f1 ∧ inB x.f3 0 1000 = true ∧ ¬ x.f2 < 0 ∧ ¬ x.f2 ≥ x.f3 ∧ inB x.f4 0 100 = true) := fun h => by rw [key.mpr h] at hq; cases hq
      refine Ev.ite (fun a1 => Ev.ite (fun a2 => Ev.ite (fun a3 => Ev.now _) fun a3 => Ev.ite (fun a4 => Ev.ite (fun a5 => Ev.now _) fun a5 => Ev.ite (fun a6 => Ev.now _) fun a6 => Ev.ite (fun a7 => absurd ⟨a1, a2, a3, a4, a5, a6, a7⟩ hk) fun a7 => Ev.now _) fun a4 => Ev.now _) fun a2 => Ev.now _) fun a1 => Ev.now _
    | false =>
      obtain ⟨a1, a2, a3, a4, a5, a6, a7⟩ := key.mp hq
      exact Ev.ite_pos a1 (Ev.ite_pos a2 (Ev.ite_neg a3 (Ev.ite_pos a4 (Ev.ite_neg a5 (Ev.ite_neg a6 (Ev.ite_pos a7 (next hq)))))))
theorem specPlan_val (l : List S53) (hl : l.length ≤ 1048576) : Ev (fun k => spec_GoodPlan.f k l) (planB l) := by
  simp only [spec_GoodPlan.f]
  exact goodPlan_go l hl l.length 0 (by omega) (by omega) (by simp)
theorem implPlan_val (l : List S53) : impl_GoodPlan.f l = some (planB l) := rfl
structure PlanOk (l : List S53) : Prop where
  len : l.length ≤ 20
  at_ : ∀ i : Nat, i < l.length → (0 ≤ (rd_T53 l (i : Int)).f0 ∧ (rd_T53 l (i : Int)).f0 ≤ 7) ∧ (0 ≤ (rd_T53 l (i : Int)).f1 ∧ (rd_T53 l (i : Int)).f1 ≤ 7) ∧ (rd_T53 l (i : Int)).f0 ≠ (rd_T53 l (i : Int)).f1 ∧ (0 ≤ (rd_T53 l (i : Int)).f2 ∧ (rd_T53 l (i : Int)).f2 < (rd_T53 l (i : Int)).f3 ∧ (rd_T53 l (i : Int)).f3 ≤ 1000) ∧ (0 ≤ (rd_T53 l (i : Int)).f4 ∧ (rd_T53 l (i : Int)).f4 ≤ 100)
theorem inB_iff {a b c : Int} : inB a b c = true ↔ b ≤ a ∧ a ≤ c := by simp [inB]
theorem planB_ok {l : List S53} (h : planB l = true) : PlanOk l := by
  unfold planB at h
  rw [Bool.and_eq_true] at h
  obtain ⟨h0, h1⟩ := h
  have h0 := of_decide_eq_true h0
  refine ⟨by omega, fun i hi => ?_⟩
  rw [rdContact_eq l i hi]
  have hb : badC l[i] = false := by
    cases hq : badC l[i] with
    | false => rfl
    | true => rw [List.any_eq_true.mpr ⟨_, List.getElem_mem hi, hq⟩] at h1; exact absurd h1 (by decide)
  obtain ⟨a1, a2, a3, a4, a5, a6, a7⟩ := (badC_iff _).mp hb
  rw [inB_iff] at a1 a2 a4 a7
  exact ⟨a1, a2, a3, ⟨by omega, by omega, a4.2⟩, a7⟩
theorem within_val (a b c : Int) : impl_within.f a b c = some (inB a b c) := by
  unfold impl_within.f inB
  by_cases h : b ≤ a
  · rw [if_pos h]; simp only [h, decide_true, Bool.true_and]
  · rw [if_neg h]; simp only [h, decide_false, Bool.false_and]
theorem openAt_go (l : List S53) (hp : PlanOk l) (at_ : Int) (d : Nat) : ∀ (i : Nat) (acc : List Int), i ≤ l.length → l.length - i = d → acc.length ≤ i →
    ∃ out : List Int, Ev (fun k => spec_OpenAt.l0 k at_ acc l (l.length : Int) (i : Int)) (out, true) ∧ Ev (fun k => impl_OpenAt.l0 k at_ acc l (l.length : Int) (i : Int)) (out, true) ∧ out.length ≤ 20 := by
  have h20 := hp.len
  induction d with
  | zero =>
    intro i acc h0 hd ha
    refine ⟨acc, ?_, ?_, by omega⟩
    · exact Ev.step (fun k => by rw [spec_OpenAt.l0]) (Ev.ite_neg (by omega) (Ev.now _))
    · exact Ev.step (fun k => by rw [impl_OpenAt.l0]) (Ev.ite_neg (by omega) (Ev.now _))
  | succ d ih =>
    intro i acc h0 hd ha
    have hw : wrap64 ((i : Int) + 1) = ((i + 1 : Nat) : Int) := by rw [w64 (by omega) (by omega)]; omega
    obtain ⟨_, _, _, ⟨b0, b1, b2⟩, _⟩ := hp.at_ i (by omega)
    have hw2 : wrap64 ((rd_T53 l (i : Int)).f3 - 1) = (rd_T53 l (i : Int)).f3 - 1 := w64 (by omega) (by omega)
    by_cases c : (rd_T53 l (i : Int)).f2 ≤ at_ ∧ at_ < (rd_T53 l (i : Int)).f3
    · obtain ⟨out, x, y, z⟩ := ih (i + 1) (acc ++ [(i : Int)]) (by omega) (by omega) (by simp; omega)
      refine ⟨out, ?_, ?_, z⟩
      · refine Ev.step (fun k => by rw [spec_OpenAt.l0]) (Ev.ite_pos (by omega) (Ev.ite_pos (by omega) (Ev.ite_pos (by omega) (Ev.ite_pos c.1 (Ev.ite_pos c.2 (Ev.ite_pos (by omega) ?_))))))
        rw [hw]; exact x
      · refine Ev.step (fun k => by rw [impl_OpenAt.l0]) (Ev.ite_pos (by omega) (Ev.ite_pos (by omega) (Ev.ite_pos (by omega) (Ev.opt_bind (within_val _ _ _) ?_))))
        refine Ev.ite_pos (by rw [hw2, inB_iff]; omega) (Ev.ite_pos (by omega) ?_)
        rw [hw]; exact y
    · obtain ⟨out, x, y, z⟩ := ih (i + 1) acc (by omega) (by omega) (by omega)
      refine ⟨out, ?_, ?_, z⟩
      · refine Ev.step (fun k => by rw [spec_OpenAt.l0]) (Ev.ite_pos (by omega) (Ev.ite_pos (by omega) (Ev.ite_pos (by omega) (Ev.ite (fun c1 => Ev.ite_neg (fun c2 => c ⟨c1, c2⟩) ?_) fun _ => ?_))))
        · rw [hw]; exact x
        · rw [hw]; exact x
      · refine Ev.step (fun k => by rw [impl_OpenAt.l0]) (Ev.ite_pos (by omega) (Ev.ite_pos (by omega) (Ev.ite_pos (by omega) (Ev.opt_bind (within_val _ _ _) ?_))))
        refine Ev.ite_neg (by rw [hw2, inB_iff]; omega) ?_
        rw [hw]; exact y
theorem openAt_val (l : List S53) (hl : l.length ≤ 1048576) (at_ : Int) : ∃ (out : List Int) (b : Bool), Ev (fun k => spec_OpenAt.f k l at_) (out, b) ∧ Ev (fun k => impl_OpenAt.f k l at_) (out, b) ∧ out.length ≤ 20 := by
  have hs := specPlan_val l hl
  have hi := implPlan_val l
  simp only [spec_OpenAt.f, impl_OpenAt.f, impl_isWhen.f, l6When_val, within_val, Option.bind_some]
  have no : Ev (fun k => spec_OpenAt.j0 k l at_ true) (([] : List Int), false) ∧ Ev (fun k => impl_OpenAt.j0 k l at_ true) (([] : List Int), false) :=
    ⟨Ev.step (fun k => by rw [spec_OpenAt.j0]) (Ev.ite_pos rfl (Ev.now _)), Ev.step (fun k => by rw [impl_OpenAt.j0]) (Ev.ite_pos rfl (Ev.now _))⟩
  cases hp : planB l with
  | false =>
    rw [hp] at hs hi
    exact ⟨[], false, Ev.bind hs (Ev.ite_neg (by decide) no.1), Ev.opt_bind hi (Ev.ite_neg (by decide) no.2), by simp⟩
  | true =>
    rw [hp] at hs hi
    cases hq : inB at_ 0 1000 with
    | false => exact ⟨[], false, Ev.bind hs (Ev.ite_pos rfl no.1), Ev.opt_bind hi (Ev.ite_pos rfl no.2), by simp⟩
    | true =>
      obtain ⟨out, x, y, z⟩ := openAt_go l (planB_ok hp) at_ l.length 0 [] (by omega) (by omega) (by simp)
      refine ⟨out, true, Ev.bind hs (Ev.ite_pos rfl (Ev.step (fun k => by rw [spec_OpenAt.j0]) ?_)), Ev.opt_bind hi (Ev.ite_pos rfl (Ev.step (fun k => by rw [impl_OpenAt.j0]) ?_)), z⟩
      · exact Ev.ite_neg (by decide) x
      · exact Ev.ite_neg (by decide) y
theorem markContactS_go (n : Nat) (hn : n ≤ 1048576) (d : Nat) : ∀ (l : List S53) (i : Nat), l.length = n → i ≤ n → n - i = d →
    ∃ l', Ev (fun k => laws_markContactS.l0 k l (1 + 5 * (i : Int)) (i : Int)) (1 + 5 * (n : Int), l') := by
  induction d with
  | zero =>
    intro l i h1 h2 hd
    obtain rfl : i = n := by omega
    refine ⟨l, Ev.step (fun k => by rw [laws_markContactS.l0]) (Ev.ite_neg (by omega) (Ev.now _))⟩
  | succ d ih =>
    intro l i h1 h2 hd
    have hw : wrap64 ((i : Int) + 1) = ((i + 1 : Nat) : Int) := by rw [w64 (by omega) (by omega)]; omega
    have e1 : wrap64 (1 + 5 * (i : Int) + 1) = 1 + 5 * (i : Int) + 1 := w64 (by omega) (by omega)
    have e2 : wrap64 (1 + 5 * (i : Int) + 1 + 1) = 1 + 5 * (i : Int) + 1 + 1 := w64 (by omega) (by omega)
    have e3 : wrap64 (1 + 5 * (i : Int) + 1 + 1 + 1) = 1 + 5 * (i : Int) + 1 + 1 + 1 := w64 (by omega) (by omega)
    have e4 : wrap64 (1 + 5 * (i : Int) + 1 + 1 + 1 + 1) = 1 + 5 * (i : Int) + 1 + 1 + 1 + 1 := w64 (by omega) (by omega)
    have e5 : wrap64 (1 + 5 * (i : Int) + 1 + 1 + 1 + 1 + 1) = 1 + 5 * ((i + 1 : Nat) : Int) := by rw [w64 (by omega) (by omega)]; omega
    have key : ∀ l2 : List S53, l2.length = n → ∃ l', Ev (fun k => laws_markContactS.l0 k l2 (1 + 5 * ((i + 1 : Nat) : Int)) ((i + 1 : Nat) : Int)) (1 + 5 * (n : Int), l') := fun l2 h => ih l2 (i + 1) h (by omega) (by omega)
    have fin : ∀ l2 : List S53, l2.length = n → ∃ l', Ev (fun k => laws_markContactS.l0 k l2 (wrap64 (wrap64 (wrap64 (wrap64 (wrap64 (1 + 5 * (i : Int) + 1) + 1) + 1) + 1) + 1)) (wrap64 ((i : Int) + 1))) (1 + 5 * (n : Int), l') := fun l2 h => by
      rw [e1, e2, e3, e4, e5, hw]; exact key l2 h
    have one : ∃ L : List S53, L.length = l.length ∧ ∀ k, laws_markContactS.l0 (k + 1) l (1 + 5 * (i : Int)) (i : Int) = laws_markContactS.l0 k L (wrap64 (wrap64 (wrap64 (wrap64 (wrap64 (1 + 5 * (i : Int) + 1) + 1) + 1) + 1) + 1)) (wrap64 ((i : Int) + 1)) := by
      refine ⟨?L, ?len, fun k => ?eq⟩
      case eq =>
        rw [laws_markContactS.l0, if_pos (show (i : Int) < (l.length : Int) by omega), if_pos (show (0 : Int) ≤ (i : Int) by omega)]
        simp only [Option.bind_some]
        rfl
      case len => simp only [List.length_set]
    obtain ⟨L, hL, hk⟩ := one
    obtain ⟨l', h'⟩ := fin L (hL.trans h1)
    exact ⟨l', Ev.step hk h'⟩
theorem markContactS_val (l : List S53) (hn : l.length ≤ 1048576) : ∃ l', Ev (fun k => laws_markContactS.f k l 1) (1 + 5 * (l.length : Int), l') := by
  obtain ⟨l', h⟩ := markContactS_go l.length hn l.length l 0 rfl (by omega) (by omega)
  refine ⟨l', ?_⟩
  simp only [laws_markContactS.f]
  simpa using h
theorem eqIntS_go (l : List Int) (hl : l.length ≤ 4611686018427387904) (d : Nat) : ∀ i : Int, 0 ≤ i → (l.length : Int) - i = d → Ev (fun k => laws_eqIntS.l0 k l l i) true := by
  induction d with
  | zero =>
    intro i h0 hd
    refine Ev.step (fun k => by rw [laws_eqIntS.l0]) ?_
    simp only [if_neg (show ¬ i < (l.length : Int) by omega)]
    exact Ev.now _
  | succ d ih =>
    intro i h0 hd
    refine Ev.step (fun k => by rw [laws_eqIntS.l0]) ?_
    simp only [if_pos (show i < (l.length : Int) by omega), if_pos h0, if_true, w64 (show -9223372036854775808 ≤ i + 1 by omega) (show i + 1 ≤ 9223372036854775807 by omega)]
    exact ih (i + 1) (by omega) (by omega)
theorem eqIntS_self (l : List Int) (hl : l.length ≤ 4611686018427387904) : Ev (fun k => laws_eqIntS.f k l l) true := by
  simp only [laws_eqIntS.f, if_true]
  exact eqIntS_go l hl l.length 0 (by omega) (by omega)
theorem markIntS_go (n : Nat) (hn : n ≤ 4611686018427387904) (d : Nat) : ∀ (l : List Int) (i : Nat), l.length = n → i ≤ n → n - i = d → (∀ j, j < i → rd l (j : Int) = 1 + j) →
    ∃ l' : List Int, l'.length = n ∧ (∀ j, j < n → rd l' (j : Int) = 1 + j) ∧ Ev (fun k => laws_markIntS.l0 k l (1 + (i : Int)) (i : Int)) (1 + (n : Int), l') := by
  induction d with
  | zero =>
    intro l i h1 h2 hd hj
    obtain rfl : i = n := by omega
    refine ⟨l, h1, hj, ?_⟩
    refine Ev.step (fun k => by rw [laws_markIntS.l0]) ?_
    simp only [if_neg (show ¬ (i : Int) < (l.length : Int) by omega)]
    exact Ev.now _
  | succ d ih =>
    intro l i h1 h2 hd hj
    obtain ⟨l', a, b, c⟩ := ih (l.set i (1 + i)) (i + 1) (by simpa using h1) (by omega) (by omega) (fun j hj' => by
      rcases Nat.lt_or_ge j i with h | h
      · rw [rd_set_ne _ _ _ (by omega)]; exact hj j h
      · obtain rfl : j = i := by omega
        exact rd_set_same l j (by omega) _)
    refine ⟨l', a, b, ?_⟩
    refine Ev.step (fun k => by rw [laws_markIntS.l0]) ?_
    simp only [if_pos (show (i : Int) < (l.length : Int) by omega), if_pos (show (0 : Int) ≤ (i : Int) by omega), Int.toNat_natCast, w64 (show -9223372036854775808 ≤ (i : Int) + 1 by omega) (show (i : Int) + 1 ≤ 9223372036854775807 by omega), w64 (show -9223372036854775808 ≤ 1 + (i : Int) + 1 by omega) (show 1 + (i : Int) + 1 ≤ 9223372036854775807 by omega)]
    have e : 1 + (i : Int) + 1 = 1 + ((i + 1 : Nat) : Int) := by omega
    rw [e]
    exact c
theorem heldIntS_go (n : Nat) (hn : n ≤ 4611686018427387904) (l : List Int) (hl : l.length = n) (hj : ∀ j, j < n → rd l (j : Int) = 1 + j) (d : Nat) : ∀ (i : Nat), i ≤ n → n - i = d →
    Ev (fun k => laws_heldIntS.l0 k l (1 + (i : Int)) (i : Int)) (1 + (n : Int)) := by
  induction d with
  | zero =>
    intro i h2 hd
    obtain rfl : i = n := by omega
    refine Ev.step (fun k => by rw [laws_heldIntS.l0]) ?_
    simp only [if_neg (show ¬ (i : Int) < (l.length : Int) by omega)]
    exact Ev.now _
  | succ d ih =>
    intro i h2 hd
    have c := ih (i + 1) (by omega) (by omega)
    refine Ev.step (fun k => by rw [laws_heldIntS.l0]) ?_
    simp only [if_pos (show (i : Int) < (l.length : Int) by omega), if_pos (show (0 : Int) ≤ (i : Int) by omega), hj i (by omega), if_true, w64 (show -9223372036854775808 ≤ (i : Int) + 1 by omega) (show (i : Int) + 1 ≤ 9223372036854775807 by omega), w64 (show -9223372036854775808 ≤ 1 + (i : Int) + 1 by omega) (show 1 + (i : Int) + 1 ≤ 9223372036854775807 by omega)]
    have e : 1 + (i : Int) + 1 = 1 + ((i + 1 : Nat) : Int) := by omega
    rw [e]
    exact c
theorem markIntS_held (l : List Int) (hl : l.length ≤ 4611686018427387904) : ∃ l' : List Int, Ev (fun k => laws_markIntS.f k l 1) (1 + (l.length : Int), l') ∧ Ev (fun k => laws_heldIntS.f k l' 1) (1 + (l.length : Int)) := by
  obtain ⟨l', a, b, c⟩ := markIntS_go l.length hl l.length l 0 rfl (by omega) (by omega) (fun j hj => by omega)
  refine ⟨l', ?_, ?_⟩
  · simp only [laws_markIntS.f]; exact c
  · simp only [laws_heldIntS.f]; exact heldIntS_go l.length hl l' a b l.length 0 (by omega) (by omega)
theorem FnExactOpenAt : Go.Proofs.Ytckndinhkkhonaa.GoalFnExactOpenAt.Goal := by
  intro l at_ h0 _ h1 _
  refine Ev.rounds ?_
  obtain ⟨r, hr, hr2⟩ := szContactS_val l h0
  simp only [laws_FnExactOpenAt.f]
  refine Ev.opt_bind hr (Ev.ite (fun _ => Ev.now _) fun hn => ?_)
  have hl := hr2 (by omega)
  have hl2 : (l.map contactOf).length ≤ 1048576 := by simpa using hl
  obtain ⟨out, b, x, y, z⟩ := openAt_val (l.map contactOf) hl2 at_
  obtain ⟨l', m, h⟩ := markIntS_held out (by omega)
  obtain ⟨l2, m2⟩ := markContactS_val (l.map contactOf) hl2
  have t := toContactS_val l hl
  have eqs := eqIntS_self out (by omega)
  refine Ev.bind t (Ev.bind x (Ev.bind t (Ev.bind y (Ev.bind eqs (Ev.ite_pos rfl ?_)))))
  refine Ev.step (fun k => by rw [laws_FnExactOpenAt.j0]) ?_
  refine Ev.ite_neg (by simp) (Ev.bind t (Ev.bind (eqContactS_self _ hl2) (Ev.ite_pos rfl (Ev.bind m2 (Ev.ite_neg ?_ (Ev.bind eqs (Ev.ite_pos rfl ?_)))))))
  · simp only; omega
  refine Ev.step (fun k => by rw [laws_FnExactOpenAt.j1]) ?_
  refine Ev.ite_neg (by simp) (Ev.bind m (Ev.bind h ?_))
  refine Ev.ite_neg (by omega) (Ev.ite_pos rfl (Ev.bind t (Ev.bind y (Ev.bind eqs (Ev.ite_pos rfl ?_)))))
  refine Ev.step (fun k => by rw [laws_FnExactOpenAt.j2]) ?_
  refine Ev.ite_neg (by simp) (Ev.bind h ?_)
  exact Ev.ite_neg (by omega) (Ev.ite_pos rfl (Ev.now _))

end Go.Proofs.Ytckndinhkkhonaa.Pure
