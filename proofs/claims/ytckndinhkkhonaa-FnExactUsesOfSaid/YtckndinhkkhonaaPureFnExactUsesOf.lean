/- What the printed program answers at this law is true, for every argument. -/
import Derived.Test.YtckndinhkkhonaaQFnExactUsesOfx4
import Derived.Test.YtckndinhkkhonaaPlain
import Derived.Test.YtckndinhkkhonaaGoalFnExactUsesOf
set_option linter.unusedVariables false
set_option linter.unusedSimpArgs false
namespace Go.Proofs.Ytckndinhkkhonaa.Pure
open Go.RowKit Go.Proofs.Ytckndinhkkhonaa.QFnExactUsesOf Go.Proofs.YtckndinhkkhonaaW.PrintWords Go.Proofs.YtckndinhkkhonaaW.PrintLast Go.Proofs.Ytckndinhkkhonaa.Plain Go.Proofs.Ytckndinhkkhonaa.GoalFnExactUsesOf

theorem rdContactL_eq (l : List S75) (i : Nat) (h : i < l.length) : rd_T75 l (i : Int) = l[i] := by
  simp [rd_T75, List.getD_eq_getElem?_getD, List.getElem?_eq_getElem h]
theorem rdContact_eq (l : List S53) (i : Nat) (h : i < l.length) : rd_T53 l (i : Int) = l[i] := by
  simp [rd_T53, List.getD_eq_getElem?_getD, List.getElem?_eq_getElem h]
def contactOf (x : S75) : S53 := ⟨x.f0, x.f1, x.f2, x.f3, x.f4⟩
theorem szContactS_val (l : List S75) (hl : l.length ≤ maxLen) : ∃ r, laws_szContactS.f l 1048576 = some r ∧ (0 ≤ r → l.length ≤ 1048576) := by
  unfold maxLen at hl
  have hw : wrap64 (1048576 - (l.length : Int)) = 1048576 - (l.length : Int) := w64 (by omega) (by omega)
  unfold laws_szContactS.f
  rw [hw]
  by_cases h : 1048576 - (l.length : Int) < 0
  · rw [if_pos h]; exact ⟨_, rfl, fun h => by omega⟩
  · rw [if_neg h]; exact ⟨_, rfl, fun h => by omega⟩
theorem toContactS_go (l : List S75) (hl : l.length ≤ 1048576) (d : Nat) : ∀ i : Nat, i ≤ l.length → l.length - i = d → Ev (fun k => laws_toContactS.l0 k l ((l.map contactOf).take i ++ List.replicate ((l.map contactOf).length - i) z53) (i : Int)) (l.map contactOf) := by
  induction d with
  | zero =>
    intro i h0 hd
    obtain rfl : i = l.length := by omega
    refine Ev.step (fun k => by rw [laws_toContactS.l0]) ?_
    exact Ev.ite_neg (by omega) (Ev.now' (by rw [List.length_map, Nat.sub_self, List.replicate_zero, List.append_nil, List.take_of_length_le (by simp)]))
  | succ d ih =>
    intro i h0 hd
    have hlt : i < l.length := by omega
    have hlt2 : i < (l.map contactOf).length := by simpa using hlt
    have hw : wrap64 ((i : Int) + 1) = ((i + 1 : Nat) : Int) := by rw [w64 (by omega) (by omega)]; omega
    have hlen : ((l.map contactOf).take i ++ List.replicate ((l.map contactOf).length - i) z53).length = l.length := by simp; omega
    have a := ih (i + 1) (by omega) (by omega)
    rw [← fill_step (l.map contactOf) z53 i hlt2] at a
    refine Ev.step (fun k => by rw [laws_toContactS.l0]) ?_
    refine Ev.ite_pos (by omega) (Ev.ite_pos (by omega) ?_)
    simp only [laws_toContact.f, Option.bind_some, hw, Int.toNat_natCast, rdContactL_eq l i hlt]
    refine Ev.ite_pos (by rw [hlen]; omega) ?_
    have e : (l.map contactOf)[i] = (⟨l[i].f0, l[i].f1, l[i].f2, l[i].f3, l[i].f4⟩ : S53) := by simp [contactOf]
    rw [e] at a
    exact a
theorem toContactS_val (l : List S75) (hl : l.length ≤ 1048576) : Ev (fun k => laws_toContactS.f k l) (l.map contactOf) := by
  have := toContactS_go l hl l.length 0 (by omega) (by omega)
  simp only [laws_toContactS.f, Int.toNat_natCast]
  refine Ev.ite_pos (by omega) (Ev.ite_pos (by omega) ?_)
  simpa using this
theorem eqContactS_go (l : List S53) (hl : l.length ≤ 1048576) (d : Nat) : ∀ i : Nat, l.length - i = d → Ev (fun k => laws_eqContactS.l0 k l l (i : Int)) true := by
  induction d with
  | zero =>
    intro i hd
    refine Ev.step (fun k => by rw [laws_eqContactS.l0]) ?_
    exact Ev.ite_neg (by omega) (Ev.now _)
  | succ d ih =>
    intro i hd
    have hw : wrap64 ((i : Int) + 1) = ((i + 1 : Nat) : Int) := by rw [w64 (by omega) (by omega)]; omega
    refine Ev.step (fun k => by rw [laws_eqContactS.l0]) ?_
    refine Ev.ite_pos (by omega) (Ev.ite_pos (by omega) (Ev.ite_pos (by omega) ?_))
    simp only [laws_eqContact.f, if_true, Option.bind_some]
    rw [hw]
    exact ih (i + 1) (by omega)
theorem eqContactS_self (l : List S53) (hl : l.length ≤ 1048576) : Ev (fun k => laws_eqContactS.f k l l) true := by
  simp only [laws_eqContactS.f, if_true]
  exact eqContactS_go l hl l.length 0 (by omega)
/-- Whether contacts are a plan. -/
def planB (l : List S53) : Bool := decide ((l.length : Int) ≤ 20) && !l.any badC
theorem l6Node_val (n : Int) : spec_l6Node.f n = some (inB n 0 7) := by
  unfold spec_l6Node.f inB
  by_cases h : n ≥ 0
  · rw [if_pos h]; simp only [show (0 : Int) ≤ n from h, decide_true, Bool.true_and]; congr 1; exact decide_eq_decide.mpr (by omega)
  · rw [if_neg h]; simp only [show ¬ (0 : Int) ≤ n from h, decide_false, Bool.false_and]
theorem l1In_val (n a b : Int) : spec_l1In.f n a b = some (inB n a b) := by
  unfold spec_l1In.f inB
  by_cases h : n ≥ a
  · rw [if_pos h]; simp only [show a ≤ n from h, decide_true, Bool.true_and]
  · rw [if_neg h]; simp only [show ¬ a ≤ n from h, decide_false, Bool.false_and]
theorem l6When_val (n : Int) : spec_l6When.f n = some (inB n 0 1000) := by
  unfold spec_l6When.f
  rw [l1In_val]; rfl
theorem badC_iff (x : S53) : badC x = false ↔ inB x.f0 0 7 = true ∧ inB x.f1 0 7 = true ∧ x.f0 ≠ x.f1 ∧ inB x.f3 0 1000 = true ∧ ¬ x.f2 < 0 ∧ ¬ x.f2 ≥ x.f3 ∧ inB x.f4 0 100 = true := by
  simp only [badC, unlikeB, inB, Bool.or_eq_false_iff, Bool.not_eq_false', Bool.and_eq_true, decide_eq_true_eq, decide_eq_false_iff_not, ne_eq]
  omega
theorem goodPlan_go (l : List S53) (hl : l.length ≤ 1048576) (d : Nat) : ∀ i : Nat, i ≤ l.length → l.length - i = d → (l.take i).any badC = false → Ev (fun k => spec_GoodPlan.l0 k l l (l.length : Int) (i : Int)) (planB l) := by
  induction d with
  | zero =>
    intro i h0 hd hb
    refine Ev.step (fun k => by rw [spec_GoodPlan.l0]) ?_
    obtain rfl : i = l.length := by omega
    rw [List.take_length] at hb
    exact Ev.ite_neg (by omega) (Ev.now' (by rw [planB, hb]; simp))
  | succ d ih =>
    intro i h0 hd hb
    have hi : i < l.length := by omega
    have hw : wrap64 ((i : Int) + 1) = ((i + 1 : Nat) : Int) := by rw [w64 (by omega) (by omega)]; omega
    refine Ev.step (fun k => by rw [spec_GoodPlan.l0]) ?_
    refine Ev.ite_pos (by omega) (Ev.ite_pos (by omega) (Ev.ite_pos (by omega) ?_))
    simp only [rdContact_eq l i hi, l6Node_val, l6When_val, l1In_val, Option.bind_some, hw]
    have hm : l[i] ∈ l := List.getElem_mem hi
    have bad : badC l[i] = true → planB l = false := fun h => by
      rw [planB, List.any_eq_true.mpr ⟨_, hm, h⟩]; simp
    have ht : badC l[i] = false → (l.take (i + 1)).any badC = false := fun h => by
      rw [List.take_succ_eq_append_getElem hi, List.any_append, hb]; simp [h]
    have next := fun h => ih (i + 1) (by omega) (by omega) (ht h)
    have key := badC_iff l[i]
    generalize l[i] = x at bad next key
    cases hq : badC x with
    | true =>
      rw [bad hq]
      have hk : ¬ (inB x.f0 0 7 = true ∧ inB x.f1 0 7 = true ∧ x.f0 ≠ x.f1 ∧ inB x.f3 0 1000 = true ∧ ¬ x.f2 < 0 ∧ ¬ x.f2 ≥ x.f3 ∧ inB x.f4 0 100 = true) := fun h => by rw [key.mpr h] at hq; cases hq
      refine Ev.ite (fun a1 => Ev.ite (fun a2 => Ev.ite (fun a3 => Ev.now _) fun a3 => Ev.ite (fun a4 => Ev.ite (fun a5 => Ev.now _) fun a5 => Ev.ite (fun a6 => Ev.now _) fun a6 => Ev.ite (fun a7 => absurd ⟨a1, a2, a3, a4, a5, a6, a7⟩ hk) fun a7 => Ev.now _) fun a4 => Ev.now _) fun a2 => Ev.now _) fun a1 => Ev.now _
    | false =>
      obtain ⟨a1, a2, a3, a4, a5, a6, a7⟩ := key.mp hq
      exact Ev.ite_pos a1 (Ev.ite_pos a2 (Ev.ite_neg a3 (Ev.ite_pos a4 (Ev.ite_neg a5 (Ev.ite_neg a6 (Ev.ite_pos a7 (next hq)))))))
theorem specPlan_val (l : List S53) (hl : l.length ≤ 1048576) : Ev (fun k => spec_GoodPlan.f k l) (planB l) := by
  simp only [spec_GoodPlan.f]
  exact goodPlan_go l hl l.length 0 (by omega) (by omega) (by simp)
theorem implPlan_val (l : List S53) : impl_GoodPlan.f l = some (planB l) := rfl
structure PlanOk (l : List S53) : Prop where
  len : l.length ≤ 20
  at_ : ∀ i : Nat, i < l.length → (0 ≤ (rd_T53 l (i : Int)).f0 ∧ (rd_T53 l (i : Int)).f0 ≤ 7) ∧ (0 ≤ (rd_T53 l (i : Int)).f1 ∧ (rd_T53 l (i : Int)).f1 ≤ 7) ∧ (rd_T53 l (i : Int)).f0 ≠ (rd_T53 l (i : Int)).f1 ∧ (0 ≤ (rd_T53 l (i : Int)).f2 ∧ (rd_T53 l (i : Int)).f2 < (rd_T53 l (i : Int)).f3 ∧ (rd_T53 l (i : Int)).f3 ≤ 1000) ∧ (0 ≤ (rd_T53 l (i : Int)).f4 ∧ (rd_T53 l (i : Int)).f4 ≤ 100)
theorem inB_iff {a b c : Int} : inB a b c = true ↔ b ≤ a ∧ a ≤ c := by simp [inB]
theorem planB_ok {l : List S53} (h : planB l = true) : PlanOk l := by
  unfold planB at h
  rw [Bool.and_eq_true] at h
  obtain ⟨h0, h1⟩ := h
  have h0 := of_decide_eq_true h0
  refine ⟨by omega, fun i hi => ?_⟩
  rw [rdContact_eq l i hi]
  have hb : badC l[i] = false := by
    cases hq : badC l[i] with
    | false => rfl
    | true => rw [List.any_eq_true.mpr ⟨_, List.getElem_mem hi, hq⟩] at h1; exact absurd h1 (by decide)
  obtain ⟨a1, a2, a3, a4, a5, a6, a7⟩ := (badC_iff _).mp hb
  rw [inB_iff] at a1 a2 a4 a7
  exact ⟨a1, a2, a3, ⟨by omega, by omega, a4.2⟩, a7⟩
/-- Every number of a row is a place of a list. -/
def AllAt (n : Nat) (o : List Int) : Prop := ∀ j : Nat, j < o.length → 0 ≤ rd o (j : Int) ∧ rd o (j : Int) < (n : Int)
theorem rowS_go (l : List S53) (o : List Int) (ho : o.length ≤ 1048576) (d : Nat) : ∀ i : Nat, 1 ≤ i → i ≤ o.length → o.length - i = d → (∀ j : Nat, j < i → 0 ≤ rd o (j : Int) ∧ rd o (j : Int) < (l.length : Int)) →
    ∃ b : Bool, Ev (fun k => spec_l6Row.l0 k l o o (o.length : Int) (i : Int)) b ∧ (b = true → o.length ≤ 20 ∧ AllAt l.length o) ∧ (AllAt l.length o → o.length ≤ 20 → Ev (fun k => impl_isRow.l0 k l o (i : Int)) b) := by
  induction d with
  | zero =>
    intro i h1 h0 hd hp
    obtain rfl : i = o.length := by omega
    refine ⟨decide ((o.length : Int) ≤ 20), ?_, fun h => ⟨by have := of_decide_eq_true h; omega, hp⟩, fun _ h => ?_⟩
    · exact Ev.step (fun k => by rw [spec_l6Row.l0]) (Ev.ite_neg (by omega) (Ev.now _))
    · rw [decide_eq_true (show (o.length : Int) ≤ 20 by omega)]
      exact Ev.step (fun k => by rw [impl_isRow.l0]) (Ev.ite_neg (by omega) (Ev.now _))
  | succ d ih =>
    intro i h1 h0 hd hp
    have hi : i < o.length := by omega
    have hw : wrap64 ((i : Int) + 1) = ((i + 1 : Nat) : Int) := by rw [w64 (by omega) (by omega)]; omega
    have hw2 : wrap64 ((i : Int) - 1) = ((i - 1 : Nat) : Int) := by rw [w64 (by omega) (by omega)]; omega
    obtain ⟨p0, p1⟩ := hp (i - 1) (by omega)
    have open_ : ∀ {r}, _ → Ev (fun k => spec_l6Row.l0 k l o o (o.length : Int) (i : Int)) r := fun {r} h => Ev.step (r := r) (fun k => by rw [spec_l6Row.l0]) (Ev.ite_pos (by omega) (Ev.ite_pos (by omega) (Ev.ite_pos (by omega) h)))
    by_cases c0 : rd o (i : Int) < 0
    · exact ⟨false, open_ (Ev.ite_pos c0 (Ev.now _)), fun h => absurd h (by decide), fun h => by have := (h i hi).1; omega⟩
    by_cases c1 : rd o (i : Int) ≥ (l.length : Int)
    · exact ⟨false, open_ (Ev.ite_neg c0 (Ev.ite_pos c1 (Ev.now _))), fun h => absurd h (by decide), fun h => by have := (h i hi).2; omega⟩
    have q0 : 0 ≤ rd o (i : Int) := by omega
    have q1 : rd o (i : Int) < (l.length : Int) := by omega
    have open2 : ∀ {r}, _ → Ev (fun k => spec_l6Row.l0 k l o o (o.length : Int) (i : Int)) r := fun {r} h => open_ (r := r) (Ev.ite_neg c0 (Ev.ite_neg c1 (Ev.ite_pos (by omega) (Ev.ite_pos (by rw [hw2]; omega) (Ev.ite_pos (by rw [hw2]; omega) (Ev.ite_pos (by rw [hw2]; exact p0) (Ev.ite_pos (by rw [hw2]; exact p1) (Ev.ite_pos q0 (Ev.ite_pos q1 h)))))))))
    have openI : ∀ {r}, _ → Ev (fun k => impl_isRow.l0 k l o (i : Int)) r := fun {r} h => Ev.step (r := r) (fun k => by rw [impl_isRow.l0]) (Ev.ite_pos (by omega) (Ev.ite_pos (by omega) (Ev.ite_pos q0 (Ev.ite_pos q1 (Ev.ite_pos (by rw [hw2]; omega) (Ev.ite_pos (by rw [hw2]; omega) (Ev.ite_pos (by rw [hw2]; exact p0) (Ev.ite_pos (by rw [hw2]; exact p1) h))))))))
    by_cases c2 : (rd_T53 l (rd o (wrap64 ((i : Int) - 1)))).f1 = (rd_T53 l (rd o (i : Int))).f0
    · obtain ⟨b, x, y, z⟩ := ih (i + 1) (by omega) (by omega) (by omega) (fun j hj => by
        rcases Nat.lt_or_ge j i with h | h
        · exact hp j h
        · obtain rfl : j = i := by omega
          exact ⟨q0, q1⟩)
      rw [← hw] at x z
      exact ⟨b, open2 (Ev.ite_pos c2 x), y, fun h h' => openI (Ev.ite_pos c2.symm (z h h'))⟩
    · exact ⟨false, open2 (Ev.ite_neg c2 (Ev.now _)), fun h => absurd h (by decide), fun h h' => openI (Ev.ite_neg (fun e => c2 e.symm) (Ev.now _))⟩
theorem row_val (l : List S53) (o : List Int) (ho : o.length ≤ 1048576) :
    ∃ b : Bool, Ev (fun k => spec_l6Row.f k l o) b ∧ (b = true → o.length ≤ 20 ∧ AllAt l.length o) ∧ (AllAt l.length o → o.length ≤ 20 → Ev (fun k => impl_isRow.f k l o) b) := by
  simp only [spec_l6Row.f, impl_isRow.f]
  by_cases hz : o.length = 0
  · refine ⟨true, ?_, fun _ => ⟨by omega, fun j hj => by omega⟩, fun _ _ => ?_⟩
    · exact Ev.step (fun k => by rw [spec_l6Row.l0]) (Ev.ite_neg (by omega) (Ev.now' (by simp [hz])))
    · exact Ev.step (fun k => by rw [impl_isRow.l0]) (Ev.ite_neg (by omega) (Ev.now _))
  have open_ : ∀ {r}, _ → Ev (fun k => spec_l6Row.l0 k l o o (o.length : Int) 0) r := fun {r} h => Ev.step (r := r) (fun k => by rw [spec_l6Row.l0]) (Ev.ite_pos (by omega) (Ev.ite_pos (by omega) (Ev.ite_pos (by omega) h)))
  have h00 := fun h : AllAt l.length o => h 0 (by omega)
  by_cases c0 : rd o 0 < 0
  · exact ⟨false, open_ (Ev.ite_pos c0 (Ev.now _)), fun h => absurd h (by decide), fun h => by have := (h00 h).1; simp only [Int.ofNat_zero, Int.natCast_zero] at this; omega⟩
  by_cases c1 : rd o 0 ≥ (l.length : Int)
  · exact ⟨false, open_ (Ev.ite_neg c0 (Ev.ite_pos c1 (Ev.now _))), fun h => absurd h (by decide), fun h => by have := (h00 h).2; simp only [Int.ofNat_zero, Int.natCast_zero] at this; omega⟩
  obtain ⟨b, x, y, z⟩ := rowS_go l o ho (o.length - 1) 1 (by omega) (by omega) (by omega) (fun j hj => by
    obtain rfl : j = 0 := by omega
    exact ⟨show 0 ≤ rd o 0 by omega, show rd o 0 < (l.length : Int) by omega⟩)
  refine ⟨b, open_ (Ev.ite_neg c0 (Ev.ite_neg c1 (Ev.ite_neg (by omega) ?_))), y, z⟩
  rw [show wrap64 (0 + 1) = ((1 : Nat) : Int) from by rw [w64 (by omega) (by omega)]; rfl]
  exact x
theorem areOf_val (o : List Int) (n : Nat) (hn : n ≤ 1048576) : ∃ b : Bool, impl_areOf.f o (n : Int) 20 = some b ∧ (b = true ↔ o.length ≤ 20 ∧ AllAt n o) := by
  refine ⟨_, rfl, ?_⟩
  have hw : wrap64 ((n : Int) - 1) = (n : Int) - 1 := w64 (by omega) (by omega)
  have hb : ∀ x : Int, badN (n : Int) x = false ↔ 0 ≤ x ∧ x < (n : Int) := fun x => by
    unfold badN inA
    rw [hw, Bool.not_eq_false', Bool.and_eq_true, decide_eq_true_eq, decide_eq_true_eq]
    omega
  rw [Bool.and_eq_true, decide_eq_true_eq, Bool.not_eq_true', List.any_eq_false]
  constructor
  · rintro ⟨h, h2⟩
    refine ⟨by omega, fun j hj => ?_⟩
    rw [rd_eq o j hj]
    have := h2 o[j] (List.getElem_mem hj)
    exact (hb _).mp (by simpa using this)
  · rintro ⟨h, h2⟩
    refine ⟨by omega, fun x hx => ?_⟩
    obtain ⟨j, hj, rfl⟩ := List.mem_iff_getElem.mp hx
    have := h2 j hj
    rw [rd_eq o j hj] at this
    rw [(hb _).mpr this]; decide
theorem usesS_go (l : List S53) (o : List Int) (ho : o.length ≤ 20) (b : Bool) (hb : Ev (fun k => spec_l6Row.f k l o) b) (d : Nat) : ∀ i : Nat, i ≤ o.length → o.length - i = d → (∀ j : Nat, j < i → 0 ≤ rd o (j : Int) ∧ rd o (j : Int) < (l.length : Int)) →
    ∃ u : Bool × Bool, Ev (fun k => spec_UsesOf.l0 k l o o (o.length : Int) (i : Int)) u ∧ (AllAt l.length o → u = (b, true)) ∧ (¬ AllAt l.length o → u = (false, false)) := by
  induction d with
  | zero =>
    intro i h0 hd hp
    obtain rfl : i = o.length := by omega
    exact ⟨(b, true), Ev.step (fun k => by rw [spec_UsesOf.l0]) (Ev.ite_neg (by omega) (Ev.bind hb (Ev.now _))), fun _ => rfl, fun h => absurd hp h⟩
  | succ d ih =>
    intro i h0 hd hp
    have hi : i < o.length := by omega
    have hw : wrap64 ((i : Int) + 1) = ((i + 1 : Nat) : Int) := by rw [w64 (by omega) (by omega)]; omega
    have open_ : ∀ {r}, _ → Ev (fun k => spec_UsesOf.l0 k l o o (o.length : Int) (i : Int)) r := fun {r} h => Ev.step (r := r) (fun k => by rw [spec_UsesOf.l0]) (Ev.ite_pos (by omega) (Ev.ite_pos (by omega) (Ev.ite_pos (by omega) h)))
    by_cases c0 : rd o (i : Int) < 0
    · exact ⟨_, open_ (Ev.ite_pos c0 (Ev.now _)), fun h => by have := (h i hi).1; omega, fun _ => rfl⟩
    by_cases c1 : rd o (i : Int) ≥ (l.length : Int)
    · exact ⟨_, open_ (Ev.ite_neg c0 (Ev.ite_pos c1 (Ev.now _))), fun h => by have := (h i hi).2; omega, fun _ => rfl⟩
    obtain ⟨u, x, y, z⟩ := ih (i + 1) (by omega) (by omega) (fun j hj => by
      rcases Nat.lt_or_ge j i with h | h
      · exact hp j h
      · obtain rfl : j = i := by omega
        exact ⟨by omega, by omega⟩)
    rw [← hw] at x
    exact ⟨u, open_ (Ev.ite_neg c0 (Ev.ite_neg c1 x)), y, z⟩
theorem usesOf_val (l : List S53) (hl : l.length ≤ 1048576) (o : List Int) (ho : o.length ≤ 1048576) : ∃ u : Bool × Bool, Ev (fun k => spec_UsesOf.f k l o) u ∧ Ev (fun k => impl_UsesOf.f k l o) u := by
  have hs := specPlan_val l hl
  have hi := implPlan_val l
  simp only [spec_UsesOf.f, impl_UsesOf.f]
  have no : Ev (fun k => spec_UsesOf.j0 k l o true) (false, false) := Ev.step (fun k => by rw [spec_UsesOf.j0]) (Ev.ite_pos rfl (Ev.now _))
  cases hp : planB l with
  | false =>
    rw [hp] at hs hi
    exact ⟨(false, false), Ev.bind hs (Ev.ite_neg (by decide) no), Ev.opt_bind hi (Ev.ite_neg (by decide) (Ev.now _))⟩
  | true =>
    rw [hp] at hs hi
    obtain ⟨a, ha, ha2⟩ := areOf_val o l.length (by omega)
    obtain ⟨b, x, y, z⟩ := row_val l o ho
    by_cases h20 : (o.length : Int) > 20
    · have : a = false := by
        cases a with
        | false => rfl
        | true => have := (ha2.mp rfl).1; omega
      subst this
      exact ⟨(false, false), Ev.bind hs (Ev.ite_pos rfl (by rw [decide_eq_true h20]; exact no)), Ev.opt_bind hi (Ev.ite_pos rfl (Ev.opt_bind ha (Ev.ite_neg (by decide) (Ev.now _))))⟩
    · obtain ⟨u, p, q, r⟩ := usesS_go l o (by omega) b x o.length 0 (by omega) (by omega) (fun j hj => by omega)
      have sp : Ev (fun k => spec_UsesOf.j0 k l o (decide ((o.length : Int) > 20))) u := by
        rw [decide_eq_false h20]
        refine Ev.step (fun k => by rw [spec_UsesOf.j0]) ?_
        exact Ev.ite_neg (by decide) p
      refine ⟨u, Ev.bind hs (Ev.ite_pos rfl sp), Ev.opt_bind hi (Ev.ite_pos rfl (Ev.opt_bind ha ?_))⟩
      cases a with
      | true =>
        obtain ⟨_, all⟩ := ha2.mp rfl
        rw [q all]
        exact Ev.ite_pos rfl (Ev.bind (z all (by omega)) (Ev.now _))
      | false =>
        rw [r (fun all => absurd (ha2.mpr ⟨by omega, all⟩) (by decide))]
        exact Ev.ite_neg (by decide) (Ev.now _)
theorem toIntS_go (l : List Int) (hl : l.length ≤ 35184372088832) (d : Nat) : ∀ i : Nat, i ≤ l.length → l.length - i = d → Ev (fun k => laws_toIntS.l0 k l (l.take i ++ List.replicate (l.length - i) 0) (i : Int)) l := by
  induction d with
  | zero =>
    intro i h0 hd
    obtain rfl : i = l.length := by omega
    refine Ev.step (fun k => by rw [laws_toIntS.l0]) ?_
    simp only [if_neg (show ¬ (l.length : Int) < (l.length : Int) by omega)]
    exact Ev.now' (by simp)
  | succ d ih =>
    intro i h0 hd
    have hlt : i < l.length := by omega
    refine Ev.step (fun k => by rw [laws_toIntS.l0]) ?_
    have hlen : (l.take i ++ List.replicate (l.length - i) (0 : Int)).length = l.length := by simp; omega
    simp only [if_pos (show (i : Int) < (l.length : Int) by omega), if_pos (show (0 : Int) ≤ (i : Int) by omega), hlen, w64 (show -9223372036854775808 ≤ (i : Int) + 1 by omega) (show (i : Int) + 1 ≤ 9223372036854775807 by omega), rd_eq l i hlt, Int.toNat_natCast, fill_step l 0 i hlt]
    exact ih (i + 1) (by omega) (by omega)
theorem toIntS_self (l : List Int) (hl : l.length ≤ 35184372088832) : Ev (fun k => laws_toIntS.f k l) l := by
  have := toIntS_go l hl l.length 0 (by omega) (by omega)
  simp only [laws_toIntS.f, if_pos (show (0 : Int) ≤ (l.length : Int) by omega), Int.toNat_natCast, if_pos hl]
  simpa using this
theorem eqIntS_go (l : List Int) (hl : l.length ≤ 4611686018427387904) (d : Nat) : ∀ i : Int, 0 ≤ i → (l.length : Int) - i = d → Ev (fun k => laws_eqIntS.l0 k l l i) true := by
  induction d with
  | zero =>
    intro i h0 hd
    refine Ev.step (fun k => by rw [laws_eqIntS.l0]) ?_
    simp only [if_neg (show ¬ i < (l.length : Int) by omega)]
    exact Ev.now _
  | succ d ih =>
    intro i h0 hd
    refine Ev.step (fun k => by rw [laws_eqIntS.l0]) ?_
    simp only [if_pos (show i < (l.length : Int) by omega), if_pos h0, if_true, w64 (show -9223372036854775808 ≤ i + 1 by omega) (show i + 1 ≤ 9223372036854775807 by omega)]
    exact ih (i + 1) (by omega) (by omega)
theorem eqIntS_self (l : List Int) (hl : l.length ≤ 4611686018427387904) : Ev (fun k => laws_eqIntS.f k l l) true := by
  simp only [laws_eqIntS.f, if_true]
  exact eqIntS_go l hl l.length 0 (by omega) (by omega)
theorem FnExactUsesOf : Go.Proofs.Ytckndinhkkhonaa.GoalFnExactUsesOf.Goal := by
  intro l o h0 _ h1 h2 _ _
  refine Ev.rounds ?_
  obtain ⟨r, hr, hr2⟩ := szContactS_val l h0
  simp only [laws_FnExactUsesOf.f]
  refine Ev.ite (fun _ => Ev.now _) fun ho => Ev.opt_bind hr (Ev.ite (fun _ => Ev.now _) fun hn => ?_)
  have hl := hr2 (by omega)
  have hl2 : (l.map contactOf).length ≤ 1048576 := by simpa using hl
  obtain ⟨u, x, y⟩ := usesOf_val (l.map contactOf) hl2 o (by omega)
  have t := toContactS_val l hl
  have ti := toIntS_self o (by omega)
  refine Ev.bind t (Ev.bind ti (Ev.bind x (Ev.bind t (Ev.bind ti (Ev.bind y (Ev.ite_neg (by simp) ?_))))))
  refine Ev.step (fun k => by rw [laws_FnExactUsesOf.j0]) ?_
  exact Ev.ite_neg (by simp) (Ev.bind t (Ev.bind (eqContactS_self _ hl2) (Ev.ite_pos rfl (Ev.bind ti (Ev.bind (eqIntS_self o (by omega)) (Ev.ite_pos rfl (Ev.now _)))))))

end Go.Proofs.Ytckndinhkkhonaa.Pure
