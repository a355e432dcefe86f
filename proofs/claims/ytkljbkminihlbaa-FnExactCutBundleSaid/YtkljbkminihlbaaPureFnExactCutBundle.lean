/- What the printed program answers at this law is true, for every argument. -/
import Derived.Test.YtkljbkminihlbaaQFnExactCutBundlex7
import Derived.Test.YtkljbkminihlbaaPlain
import Derived.Test.YtkljbkminihlbaaGoalFnExactCutBundle
set_option linter.unusedVariables false
set_option linter.unusedSimpArgs false
namespace Go.Proofs.Ytkljbkminihlbaa.Pure
open Go.RowKit Go.Proofs.Ytkljbkminihlbaa.QFnExactCutBundle Go.Proofs.YtkljbkminihlbaaW.PrintWords Go.Proofs.YtkljbkminihlbaaW.PrintLast Go.Proofs.Ytkljbkminihlbaa.Plain Go.Proofs.Ytkljbkminihlbaa.GoalFnExactCutBundle

/-- A good bundle, by its numbers and its payload's length. -/
def GoodP (f t mk no life hops off tot : Int) (n : Nat) : Prop :=
  (0 ≤ f ∧ f ≤ 40) ∧ (0 ≤ t ∧ t ≤ 40) ∧ (0 ≤ mk ∧ mk ≤ 1000000) ∧ (0 ≤ no ∧ no ≤ 1000) ∧ (1 ≤ life ∧ life ≤ 1000000) ∧ (0 ≤ hops ∧ hops ≤ 30) ∧ n ≤ 60 ∧
    ((tot = 0 ∧ off = 0) ∨ (1 ≤ tot ∧ tot ≤ 60 ∧ 0 ≤ off ∧ off + n ≤ tot ∧ 0 < n))
instance (f t mk no life hops off tot : Int) (n : Nat) : Decidable (GoodP f t mk no life hops off tot n) := by unfold GoodP; infer_instance
theorem specIn (a b c : Int) : spec_l1In.f a b c = some (decide (b ≤ a ∧ a ≤ c)) := by
  unfold spec_l1In.f
  by_cases h : b ≤ a <;> simp [h]
theorem specGood (a0 a1 : Int) (a2 : Bool) (a3 a4 a5 a6 a7 a8 : Int) (a9 : ByteArray) : spec_GoodBundle.f a0 a1 a2 a3 a4 a5 a6 a7 a8 a9 = some (decide (GoodP a0 a1 a3 a4 a5 a6 a7 a8 a9.size)) := by
  unfold spec_GoodBundle.f
  simp only [specIn, Option.bind_some, decide_eq_true_eq]
  by_cases h0 : 0 ≤ a0 ∧ a0 ≤ 40
  · rw [if_pos h0]
    by_cases h1 : 0 ≤ a1 ∧ a1 ≤ 40
    · rw [if_pos h1]
      by_cases h3 : 0 ≤ a3 ∧ a3 ≤ 1000000
      · rw [if_pos h3]
        by_cases h4 : 0 ≤ a4 ∧ a4 ≤ 1000
        · rw [if_pos h4]
          by_cases h5 : 1 ≤ a5 ∧ a5 ≤ 1000000
          · rw [if_pos h5]
            by_cases h6 : 0 ≤ a6 ∧ a6 ≤ 30
            · rw [if_pos h6]
              by_cases hn : (a9.size : Int) > 60
              · rw [if_pos hn]; exact congrArg some (decide_eq_false (by unfold GoodP; omega)).symm
              · rw [if_neg hn]
                by_cases h8 : 0 ≤ a8 ∧ a8 ≤ 60
                · rw [if_pos h8]
                  by_cases h7 : 0 ≤ a7 ∧ a7 ≤ a8
                  · rw [if_pos h7]
                    by_cases hz : a8 = 0
                    · rw [if_pos hz]; exact congrArg some (decide_eq_true (by unfold GoodP; omega)).symm
                    · rw [if_neg hz]
                      by_cases hp : (a9.size : Int) > 0
                      · rw [if_pos hp, w64 (by omega) (by omega)]
                        refine congrArg some (decide_eq_decide.mpr ?_)
                        unfold GoodP; omega
                      · rw [if_neg hp]; exact congrArg some (decide_eq_false (by unfold GoodP; omega)).symm
                  · rw [if_neg h7]; exact congrArg some (decide_eq_false (by unfold GoodP; omega)).symm
                · rw [if_neg h8]; exact congrArg some (decide_eq_false (by unfold GoodP; omega)).symm
            · rw [if_neg h6]; exact congrArg some (decide_eq_false (by unfold GoodP; omega)).symm
          · rw [if_neg h5]; exact congrArg some (decide_eq_false (by unfold GoodP; omega)).symm
        · rw [if_neg h4]; exact congrArg some (decide_eq_false (by unfold GoodP; omega)).symm
      · rw [if_neg h3]; exact congrArg some (decide_eq_false (by unfold GoodP; omega)).symm
    · rw [if_neg h1]; exact congrArg some (decide_eq_false (by unfold GoodP; omega)).symm
  · rw [if_neg h0]; exact congrArg some (decide_eq_false (by unfold GoodP; omega)).symm
theorem implWithin (a b c : Int) : impl_within.f a b c = some (decide (b ≤ a ∧ a ≤ c)) := by
  unfold impl_within.f
  by_cases h : b ≤ a <;> simp [h]
theorem implGood_no (a0 a1 : Int) (a2 : Bool) (a3 a4 a5 a6 a7 a8 : Int) (a9 : ByteArray) : Ev (fun k => impl_GoodBundle.j0 k true a0 a1 a2 a3 a4 a5 a6 a7 a8 a9) false := by
  refine Ev.step (fun k => by rw [impl_GoodBundle.j0]) ?_
  exact Ev.ite_pos rfl (Ev.now _)
theorem isEmpty_size (s : ByteArray) : s.toList.isEmpty = decide (s.size = 0) := by
  rw [ByteArray.toList_eq, ← size_data]
  cases s.data.toList <;> simp
theorem implGood_end (a0 a1 : Int) (a2 : Bool) (a3 a4 a5 a6 a7 a8 : Int) (a9 : ByteArray) (h8 : -9223372036854775808 ≤ a8 ∧ a8 ≤ 9223372036854775807) (h : a9.size ≤ 60) :
    Ev (fun k => impl_GoodBundle.j0 k (decide ((a9.size : Int) > 60)) a0 a1 a2 a3 a4 a5 a6 a7 a8 a9) (decide ((a8 = 0 ∧ a7 = 0) ∨ (1 ≤ a8 ∧ a8 ≤ 60 ∧ 0 ≤ a7 ∧ a7 + a9.size ≤ a8 ∧ 0 < a9.size))) := by
  rw [decide_eq_false (show ¬ (a9.size : Int) > 60 by omega)]
  refine Ev.step (fun k => by rw [impl_GoodBundle.j0]) ?_
  refine Ev.ite_neg (by simp) ?_
  by_cases hz : a8 = 0
  · refine Ev.ite_pos hz (Ev.now' ?_)
    rw [show (a7 == 0) = decide (a7 = 0) from rfl]
    exact decide_eq_decide.mpr (by omega)
  · refine Ev.ite_neg hz ?_
    rw [implWithin, implWithin, isEmpty_size]
    simp only [Option.bind_some, decide_eq_true_eq]
    by_cases h1 : 1 ≤ a8 ∧ a8 ≤ 60
    · refine Ev.ite_pos h1 ?_
      rw [w64 (by omega) (by omega)]
      by_cases h2 : 0 ≤ a7 ∧ a7 ≤ a8 - (a9.size : Int)
      · refine Ev.ite_pos h2 (Ev.now' ?_)
        by_cases h3 : a9.size = 0
        · rw [decide_eq_true h3, decide_eq_false (show ¬ _ by omega)]; rfl
        · rw [decide_eq_false h3, decide_eq_true (show _ by omega)]; rfl
      · refine Ev.ite_neg h2 (Ev.now' (decide_eq_false (by omega)).symm)
    · refine Ev.ite_neg h1 (Ev.now' (decide_eq_false (by omega)).symm)
theorem implGood (a0 a1 : Int) (a2 : Bool) (a3 a4 a5 a6 a7 a8 : Int) (a9 : ByteArray) (h8 : -9223372036854775808 ≤ a8 ∧ a8 ≤ 9223372036854775807) :
    Ev (fun k => impl_GoodBundle.f k a0 a1 a2 a3 a4 a5 a6 a7 a8 a9) (decide (GoodP a0 a1 a3 a4 a5 a6 a7 a8 a9.size)) := by
  have no : ¬ GoodP a0 a1 a3 a4 a5 a6 a7 a8 a9.size → Ev (fun k => impl_GoodBundle.j0 k true a0 a1 a2 a3 a4 a5 a6 a7 a8 a9) (decide (GoodP a0 a1 a3 a4 a5 a6 a7 a8 a9.size)) := fun h => by
    rw [decide_eq_false h]; exact implGood_no ..
  simp only [impl_GoodBundle.f, implWithin, Option.bind_some, decide_eq_true_eq]
  refine Ev.ite (fun h0 => ?_) fun h => no (by unfold GoodP; omega)
  refine Ev.ite (fun h1 => ?_) fun h => no (by unfold GoodP; omega)
  refine Ev.ite (fun h3 => ?_) fun h => no (by unfold GoodP; omega)
  refine Ev.ite (fun h4 => ?_) fun h => no (by unfold GoodP; omega)
  refine Ev.ite (fun h5 => ?_) fun h => no (by unfold GoodP; omega)
  refine Ev.ite (fun h6 => ?_) fun h => no (by unfold GoodP; omega)
  by_cases hn : a9.size ≤ 60
  · have e : decide (GoodP a0 a1 a3 a4 a5 a6 a7 a8 a9.size) = decide ((a8 = 0 ∧ a7 = 0) ∨ (1 ≤ a8 ∧ a8 ≤ 60 ∧ 0 ≤ a7 ∧ a7 + a9.size ≤ a8 ∧ 0 < a9.size)) :=
      decide_eq_decide.mpr (by unfold GoodP; omega)
    rw [e]
    exact implGood_end a0 a1 a2 a3 a4 a5 a6 a7 a8 a9 h8 hn
  · rw [decide_eq_true (show (a9.size : Int) > 60 by omega)]
    exact no (by unfold GoodP; omega)
theorem cut_go (a0 a1 : Int) (a2 : Bool) (a3 a4 a5 a6 : Int) (a9 : ByteArray) (h60 : a9.size ≤ 60) (most : Int) (m0 : 1 ≤ most) (m1 : most ≤ 60) (d : Nat) : ∀ (i : Nat) (out : List S26), a9.size - i ≤ d → i ≤ 200 → out.length ≤ i → out.length ≤ 60 →
    ∃ v : List S26, v.length ≤ 60 ∧ Ev (fun k => spec_CutBundle.l0 k most out (i : Int) a0 a1 a2 a3 a4 a5 a6 0 0 a9) (v, true) ∧ Ev (fun k => impl_CutBundle.l0 k most (a9.size : Int) out (i : Int) a0 a1 a2 a3 a4 a5 a6 0 (a9.size : Int) a9) (v, true) := by
  induction d with
  | zero =>
    intro i out hd hi ho ho2
    exact ⟨out, ho2, Ev.step (fun k => by rw [spec_CutBundle.l0]) (Ev.ite_neg (by omega) (Ev.now _)), Ev.step (fun k => by rw [impl_CutBundle.l0]) (Ev.ite_neg (by omega) (Ev.now _))⟩
  | succ d ih =>
    intro i out hd hi ho ho2
    by_cases hlt : i < a9.size
    case neg => exact ⟨out, ho2, Ev.step (fun k => by rw [spec_CutBundle.l0]) (Ev.ite_neg (by omega) (Ev.now _)), Ev.step (fun k => by rw [impl_CutBundle.l0]) (Ev.ite_neg (by omega) (Ev.now _))⟩
    obtain ⟨mm, rfl⟩ := Int.eq_ofNat_of_zero_le (show 0 ≤ most by omega)
    have c0 : (i : Int) < (a9.size : Int) := by omega
    have c1 : (0 : Int) ≤ (i : Int) := by omega
    have room : out.length < 1599289640401 := by omega
    have key : ∀ e : Nat, i ≤ e → e ≤ a9.size → ∃ v : List S26, v.length ≤ 60 ∧ Ev (fun k => spec_CutBundle.l0 k (mm : Int) (out ++ [⟨a0, a1, a2, a3, a4, a5, a6, (i : Int), (a9.size : Int), a9.extract i e⟩]) ((i + mm : Nat) : Int) a0 a1 a2 a3 a4 a5 a6 0 0 a9) (v, true) ∧ Ev (fun k => impl_CutBundle.l0 k (mm : Int) (a9.size : Int) (out ++ [⟨a0, a1, a2, a3, a4, a5, a6, (i : Int), (a9.size : Int), a9.extract i e⟩]) ((i + mm : Nat) : Int) a0 a1 a2 a3 a4 a5 a6 0 (a9.size : Int) a9) (v, true) := fun e _ _ =>
      ih (i + mm) _ (by omega) (by omega) (by rw [List.length_append, List.length_singleton]; omega) (by rw [List.length_append, List.length_singleton]; omega)
    have hw : wrap64 ((i : Int) + (mm : Int)) = ((i + mm : Nat) : Int) := by rw [w64 (by omega) (by omega)]; omega
    have hw0 : wrap64 (0 + (i : Int)) = (i : Int) := by rw [Int.zero_add]; exact w64 (by omega) (by omega)
    by_cases hg : a9.size < i + mm
    · have c2 : wrap64 ((i : Int) + (mm : Int)) > (a9.size : Int) := by rw [hw]; omega
      have c3 : (i : Int) ≤ (a9.size : Int) := by omega
      have hmn : mn (wrap64 ((i : Int) + (mm : Int))) (a9.size : Int) = (a9.size : Int) := by unfold mn; rw [hw]; exact if_pos (by omega)
      obtain ⟨v, hv, x, y⟩ := key a9.size (by omega) (Nat.le_refl _)
      refine ⟨v, hv, Ev.step (fun k => by rw [spec_CutBundle.l0]) (Ev.ite_pos c0 (Ev.step (fun k => by rw [spec_CutBundle.j2]) (Ev.ite_pos c2 (Ev.step (fun k => by rw [spec_CutBundle.j3]) ?_)))), Ev.step (fun k => by rw [impl_CutBundle.l0]) ?_⟩
      · rw [hw]
        simp only [Int.toNat_natCast]
        exact Ev.ite_pos c1 (Ev.ite_pos c3 (Ev.ite_pos (Int.le_refl _) (Ev.ite_pos room x)))
      · refine Ev.ite_pos c0 ?_
        simp only [impl_Bundle_cut.f, hmn, hw0, if_pos c1, if_pos c3, if_pos (Int.le_refl (a9.size : Int)), Option.bind_some, Int.toNat_natCast]
        rw [hw]
        exact Ev.ite_pos room y
    · have c2 : ¬ wrap64 ((i : Int) + (mm : Int)) > (a9.size : Int) := by rw [hw]; omega
      have c3 : (i : Int) ≤ ((i + mm : Nat) : Int) := by omega
      have c4 : ((i + mm : Nat) : Int) ≤ (a9.size : Int) := by omega
      have hmn : mn ((i + mm : Nat) : Int) (a9.size : Int) = ((i + mm : Nat) : Int) := by unfold mn; exact if_neg (by omega)
      obtain ⟨v, hv, x, y⟩ := key (i + mm) (by omega) (by omega)
      refine ⟨v, hv, Ev.step (fun k => by rw [spec_CutBundle.l0]) (Ev.ite_pos c0 (Ev.step (fun k => by rw [spec_CutBundle.j2]) (Ev.ite_neg c2 (Ev.step (fun k => by rw [spec_CutBundle.j3]) ?_)))), Ev.step (fun k => by rw [impl_CutBundle.l0]) ?_⟩
      · rw [hw]
        simp only [Int.toNat_natCast]
        exact Ev.ite_pos c1 (Ev.ite_pos c3 (Ev.ite_pos c4 (Ev.ite_pos room x)))
      · refine Ev.ite_pos c0 ?_
        rw [hw]
        simp only [impl_Bundle_cut.f, hmn, hw0, if_pos c1, if_pos c3, if_pos c4, Option.bind_some, Int.toNat_natCast]
        exact Ev.ite_pos room y
theorem cut_both (a0 a1 : Int) (a2 : Bool) (a3 a4 a5 a6 a7 a8 : Int) (a9 : ByteArray) (most : Int) (h8 : -9223372036854775808 ≤ a8 ∧ a8 ≤ 9223372036854775807) :
    ∃ (v : List S26) (b : Bool), v.length ≤ 60 ∧ Ev (fun k => spec_CutBundle.f k a0 a1 a2 a3 a4 a5 a6 a7 a8 a9 most) (v, b) ∧ Ev (fun k => impl_CutBundle.f k a0 a1 a2 a3 a4 a5 a6 a7 a8 a9 most) (v, b) := by
  have hi := implGood a0 a1 a2 a3 a4 a5 a6 a7 a8 a9 h8
  have hs := specGood a0 a1 a2 a3 a4 a5 a6 a7 a8 a9
  simp only [spec_CutBundle.f, impl_CutBundle.f, specIn, implWithin, Option.bind_some]
  have noS : Ev (fun k => spec_CutBundle.j0 k most true a0 a1 a2 a3 a4 a5 a6 a7 a8 a9) (([] : List S26), false) := Ev.step (fun k => by rw [spec_CutBundle.j0]) (Ev.ite_pos rfl (Ev.now _))
  have noI : Ev (fun k => impl_CutBundle.j0 k most (a9.size : Int) true a0 a1 a2 a3 a4 a5 a6 a7 a8 a9) (([] : List S26), false) := Ev.step (fun k => by rw [impl_CutBundle.j0]) (Ev.ite_pos rfl (Ev.now _))
  have he : a9.toList = ([] : List UInt8) ↔ a9.size = 0 := by rw [ByteArray.toList_eq, ← size_data, List.length_eq_zero_iff]
  by_cases hg : GoodP a0 a1 a3 a4 a5 a6 a7 a8 a9.size
  case neg =>
    rw [decide_eq_false hg] at hi hs
    exact ⟨[], false, by simp, Ev.opt_bind hs (Ev.ite_neg (by decide) noS), Ev.bind hi (Ev.ite_neg (by decide) noI)⟩
  rw [decide_eq_true hg] at hi hs
  have hg' := hg
  unfold GoodP at hg'
  by_cases h0 : a8 = 0
  case neg => exact ⟨[], false, by simp, Ev.opt_bind hs (Ev.ite_pos rfl (Ev.ite_pos (by omega) noS)), Ev.bind hi (Ev.ite_pos rfl (Ev.ite_neg h0 noI))⟩
  by_cases hz : a9.size = 0
  · exact ⟨[], false, by simp, Ev.opt_bind hs (Ev.ite_pos rfl (Ev.ite_neg (by omega) (Ev.ite_pos (he.mpr hz) noS))), Ev.bind hi (Ev.ite_pos rfl (Ev.ite_pos h0 (Ev.ite_pos (by omega) noI)))⟩
  have hz1 : ¬ a9.toList = ([] : List UInt8) := fun e => hz (he.mp e)
  have hz2 : ¬ (a9.size : Int) = 0 := by omega
  have h01 : ¬ a8 > 0 := by omega
  have h7 : a7 = 0 := by omega
  have h60 : a9.size ≤ 60 := by omega
  by_cases hm : 1 ≤ most ∧ most ≤ 60
  case neg =>
    refine ⟨[], false, by simp, Ev.opt_bind hs (Ev.ite_pos rfl (Ev.ite_neg h01 (Ev.ite_neg hz1 ?_))), Ev.bind hi (Ev.ite_pos rfl (Ev.ite_pos h0 (Ev.ite_neg hz2 ?_)))⟩
    · rw [decide_eq_false hm]; exact noS
    · rw [decide_eq_false hm]; exact noI
  obtain ⟨v, hv, x, y⟩ := cut_go a0 a1 a2 a3 a4 a5 a6 a9 h60 most hm.1 hm.2 a9.size 0 [] (by omega) (by omega) (by simp) (by simp)
  refine ⟨v, true, hv, Ev.opt_bind hs (Ev.ite_pos rfl (Ev.ite_neg h01 (Ev.ite_neg hz1 ?_))), Ev.bind hi (Ev.ite_pos rfl (Ev.ite_pos h0 (Ev.ite_neg hz2 ?_)))⟩
  · rw [decide_eq_true hm, h7, h0]
    refine Ev.step (fun k => by rw [spec_CutBundle.j0]) ?_
    exact Ev.ite_neg (by decide) x
  · rw [decide_eq_true hm, h7, h0]
    refine Ev.step (fun k => by rw [impl_CutBundle.j0]) ?_
    exact Ev.ite_neg (by decide) y
theorem markText_go (d : Nat) : ∀ (n : Nat) (t : ByteArray), n < 10 ^ d → n ≤ 1099511627776 → t.size + d ≤ 100 → ∃ r : ByteArray, Ev (fun k => laws_markText.l0 k (n : Int) t) r := by
  induction d with
  | zero =>
    intro n t h0 hb h1
    have hn : n = 0 := by simpa using h0
    subst hn
    refine ⟨_, Ev.step (fun k => by rw [laws_markText.l0]) (Ev.ite_neg (by decide) (Ev.ite_pos (by omega) (Ev.now _)))⟩
  | succ d ih =>
    intro n t h0 hb h1
    by_cases hn : n = 0
    · subst hn
      refine ⟨_, Ev.step (fun k => by rw [laws_markText.l0]) (Ev.ite_neg (by decide) (Ev.ite_pos (by omega) (Ev.now _)))⟩
    · have hq : wrap64 (Int.tdiv (n : Int) 10) = ((n / 10 : Nat) : Int) := by rw [Int.tdiv_eq_ediv_of_nonneg (by omega), w64 (by omega) (by omega)]; omega
      have h10 : n / 10 < 10 ^ d := by rw [Nat.pow_succ] at h0; omega
      have hz : ∀ y : Int, (strOfNums [y]).size = 1 := fun y => by rw [strOfNums_size]; rfl
      obtain ⟨r, hr⟩ := ih (n / 10) (strOfNums [(wrap64 (48 + (Int.tmod (n : Int) 10))) % 256] ++ t) h10 (by omega) (by rw [ByteArray.size_append, hz]; omega)
      refine ⟨r, Ev.step (fun k => by rw [laws_markText.l0]) (Ev.ite_pos (by omega) ?_)⟩
      simp only [Option.bind_some]
      rw [hq]
      exact Ev.ite_pos (by rw [hz]; omega) hr
theorem markText_val (n : Nat) (h : n ≤ 1099511627776) : ∃ r : ByteArray, Ev (fun k => laws_markText.f k (n : Int)) r := by
  simp only [laws_markText.f]
  by_cases h0 : (n : Int) ≤ 0
  · exact ⟨_, Ev.ite_pos h0 (Ev.now _)⟩
  · obtain ⟨r, hr⟩ := markText_go 20 n (⟨#[]⟩ : ByteArray) (by omega) h (by decide)
    exact ⟨r, Ev.ite_neg h0 hr⟩
theorem eqBundle_self (a0 a1 : Int) (a2 : Bool) (a3 a4 a5 a6 a7 a8 : Int) (a9 : ByteArray) : laws_eqBundle.f a0 a1 a2 a3 a4 a5 a6 a7 a8 a9 a0 a1 a2 a3 a4 a5 a6 a7 a8 a9 = some true := by
  simp [laws_eqBundle.f]
def Marked (l : List S26) (j : Nat) : Prop := ∃ t : ByteArray, Ev (fun k => laws_markText.f k (10 + 10 * (j : Int))) t ∧ rd_T26 l (j : Int) = ⟨1 + 10 * (j : Int), 2 + 10 * (j : Int), Int.tmod (3 + 10 * (j : Int)) 3 == 0, 4 + 10 * (j : Int), 5 + 10 * (j : Int), 6 + 10 * (j : Int), 7 + 10 * (j : Int), 8 + 10 * (j : Int), 9 + 10 * (j : Int), t⟩
theorem rdB_set_same (l : List S26) (i : Nat) (h : i < l.length) (v : S26) : rd_T26 (l.set i v) (i : Int) = v := by
  simp [rd_T26, List.getD_eq_getElem?_getD, h]
theorem rdB_set_ne (l : List S26) (i j : Nat) (h : i ≠ j) (v : S26) : rd_T26 (l.set i v) (j : Int) = rd_T26 l (j : Int) := by
  simp [rd_T26, List.getD_eq_getElem?_getD, h]
theorem mark_wB (i : Nat) (h : i ≤ 1000) : wrap64 (1 + 10 * (i : Int) + 1) = 2 + 10 * (i : Int) ∧ wrap64 (2 + 10 * (i : Int) + 1) = 3 + 10 * (i : Int) ∧ wrap64 (3 + 10 * (i : Int) + 1) = 4 + 10 * (i : Int) ∧ wrap64 (4 + 10 * (i : Int) + 1) = 5 + 10 * (i : Int) ∧ wrap64 (5 + 10 * (i : Int) + 1) = 6 + 10 * (i : Int) ∧ wrap64 (6 + 10 * (i : Int) + 1) = 7 + 10 * (i : Int) ∧ wrap64 (7 + 10 * (i : Int) + 1) = 8 + 10 * (i : Int) ∧ wrap64 (8 + 10 * (i : Int) + 1) = 9 + 10 * (i : Int) ∧ wrap64 (9 + 10 * (i : Int) + 1) = 10 + 10 * (i : Int) ∧ wrap64 (10 + 10 * (i : Int) + 1) = 1 + 10 * ((i + 1 : Nat) : Int) ∧ wrap64 ((i : Int) + 1) = ((i + 1 : Nat) : Int) := by
  refine ⟨?_, ?_, ?_, ?_, ?_, ?_, ?_, ?_, ?_, ?_, ?_⟩ <;> (rw [w64 (by omega) (by omega)]; omega)
theorem markBundleS_go (n : Nat) (hn : n ≤ 60) (d : Nat) : ∀ (l : List S26) (i : Nat), l.length = n → i ≤ n → n - i = d → (∀ j, j < i → Marked l j) →
    ∃ l' : List S26, l'.length = n ∧ (∀ j, j < n → Marked l' j) ∧ Ev (fun k => laws_markBundleS.l0 k l (1 + 10 * (i : Int)) (i : Int)) (1 + 10 * (n : Int), l') := by
  induction d with
  | zero =>
    intro l i h1 h2 hd hj
    obtain rfl : i = n := by omega
    refine ⟨l, h1, hj, ?_⟩
    refine Ev.step (fun k => by rw [laws_markBundleS.l0]) ?_
    exact Ev.ite_neg (by omega) (Ev.now _)
  | succ d ih =>
    intro l i h1 h2 hd hj
    have hlt : i < l.length := by omega
    obtain ⟨t, ht⟩ := markText_val (10 + 10 * i) (by omega)
    have et : ((10 + 10 * i : Nat) : Int) = 10 + 10 * (i : Int) := by omega
    rw [et] at ht
    have c1 : (i : Int) < (l.length : Int) := by omega
    have c2 : (0 : Int) ≤ (i : Int) := by omega
    obtain ⟨l', a, b, c⟩ := ih (l.set i ⟨1 + 10 * (i : Int), 2 + 10 * (i : Int), Int.tmod (3 + 10 * (i : Int)) 3 == 0, 4 + 10 * (i : Int), 5 + 10 * (i : Int), 6 + 10 * (i : Int), 7 + 10 * (i : Int), 8 + 10 * (i : Int), 9 + 10 * (i : Int), t⟩) (i + 1) (by simpa using h1) (by omega) (by omega) (fun j hj' => by
      rcases Nat.lt_or_ge j i with h | h
      · unfold Marked
        rw [rdB_set_ne _ _ _ (by omega)]
        exact hj j h
      · obtain rfl : j = i := by omega
        unfold Marked
        rw [rdB_set_same l j hlt]
        exact ⟨t, ht, rfl⟩)
    obtain ⟨w1, w2, w3, w4, w5, w6, w7, w8, w9, w10, w11⟩ := mark_wB i (by omega)
    refine ⟨l', a, b, ?_⟩
    refine Ev.step (fun k => by rw [laws_markBundleS.l0]) ?_
    refine Ev.ite_pos c1 (Ev.ite_pos c2 ?_)
    simp only [Option.bind_some, Int.toNat_natCast, w1, w2, w3, w4, w5, w6, w7, w8, w9, w10, w11, List.set_set, rdB_set_same _ i (show i < (l.set i _).length by simpa using hlt), rdB_set_same l i hlt]
    refine Ev.bind ht ?_
    exact c
theorem heldBundleS_go (n : Nat) (hn : n ≤ 60) (l : List S26) (hl : l.length = n) (hj : ∀ j, j < n → Marked l j) (d : Nat) : ∀ (i : Nat), i ≤ n → n - i = d →
    Ev (fun k => laws_heldBundleS.l0 k l (1 + 10 * (i : Int)) (i : Int)) (1 + 10 * (n : Int)) := by
  induction d with
  | zero =>
    intro i h2 hd
    obtain rfl : i = n := by omega
    refine Ev.step (fun k => by rw [laws_heldBundleS.l0]) ?_
    exact Ev.ite_neg (by omega) (Ev.now _)
  | succ d ih =>
    intro i h2 hd
    have c := ih (i + 1) (by omega) (by omega)
    have c1 : (i : Int) < (l.length : Int) := by omega
    have c2 : (0 : Int) ≤ (i : Int) := by omega
    have hi : i < n := by omega
    obtain ⟨w1, w2, w3, w4, w5, w6, w7, w8, w9, w10, w11⟩ := mark_wB i (by omega)
    obtain ⟨t, ht, e⟩ := hj i hi
    refine Ev.step (fun k => by rw [laws_heldBundleS.l0]) ?_
    simp only [w1, w2, w3, w4, w5, w6, w7, w8, w9, w10, w11, e]
    exact Ev.ite_pos c1 (Ev.ite_pos c2 (Ev.ite_pos trivial (Ev.ite_pos trivial (Ev.ite_neg (by simp) (Ev.ite_pos trivial (Ev.ite_pos trivial (Ev.ite_pos trivial (Ev.ite_pos trivial (Ev.ite_pos trivial (Ev.ite_pos trivial (Ev.bind ht (Ev.ite_pos rfl c))))))))))))
theorem markBundleS_held (l : List S26) (hl : l.length ≤ 60) : ∃ l' : List S26, Ev (fun k => laws_markBundleS.f k l 1) (1 + 10 * (l.length : Int), l') ∧ Ev (fun k => laws_heldBundleS.f k l' 1) (1 + 10 * (l.length : Int)) := by
  obtain ⟨l', a, b, c⟩ := markBundleS_go l.length hl l.length l 0 rfl (by omega) (by omega) (fun j hj => by omega)
  refine ⟨l', ?_, ?_⟩
  · simp only [laws_markBundleS.f]
    exact c
  · have := heldBundleS_go l.length hl l' a b l.length 0 (by omega) (by omega)
    simp only [laws_heldBundleS.f]
    exact this
theorem eqBundleS_go (l : List S26) (hl : l.length ≤ 1000) (d : Nat) : ∀ i : Nat, l.length - i = d → Ev (fun k => laws_eqBundleS.l0 k l l (i : Int)) true := by
  induction d with
  | zero =>
    intro i hd
    exact Ev.step (fun k => by rw [laws_eqBundleS.l0]) (Ev.ite_neg (by omega) (Ev.now _))
  | succ d ih =>
    intro i hd
    have hw : wrap64 ((i : Int) + 1) = ((i + 1 : Nat) : Int) := by rw [w64 (by omega) (by omega)]; omega
    have := ih (i + 1) (by omega)
    rw [← hw] at this
    refine Ev.step (fun k => by rw [laws_eqBundleS.l0]) ?_
    exact Ev.ite_pos (by omega) (Ev.ite_pos (by omega) (Ev.ite_pos (by omega) (Ev.opt_bind (eqBundle_self _ _ _ _ _ _ _ _ _ _) (Ev.ite_pos rfl this))))
theorem eqBundleS_self (l : List S26) (hl : l.length ≤ 1000) : Ev (fun k => laws_eqBundleS.f k l l) true := by
  simp only [laws_eqBundleS.f, if_true]
  exact eqBundleS_go l hl l.length 0 (by omega)
theorem szBundle_val (a0 a1 : Int) (a2 : Bool) (a3 a4 a5 a6 a7 a8 : Int) (a9 : ByteArray) (h : a9.size ≤ maxLen) : laws_szBundle.f a0 a1 a2 a3 a4 a5 a6 a7 a8 a9 1048576 = some (if (a9.size : Int) ≤ 1048576 then 1048576 - (a9.size : Int) else -1) := by
  unfold maxLen at h
  unfold laws_szBundle.f
  rw [w64 (by omega) (by omega)]
  by_cases h : (a9.size : Int) ≤ 1048576
  · rw [if_neg (by omega), if_pos h]
  · rw [if_pos (by omega), if_neg h]
theorem FnExactCutBundle : Go.Proofs.Ytkljbkminihlbaa.GoalFnExactCutBundle.Goal := by
  intro a0 a1 a2 a3 a4 a5 a6 a7 a8 a9 most h0 h1 h3 h4 h5 h6 h7 h8 h9 hm
  refine Ev.rounds ?_
  simp only [laws_FnExactCutBundle.f, szBundle_val a0 a1 a2 a3 a4 a5 a6 a7 a8 a9 h9, Option.bind_some, laws_toBundle.f]
  refine Ev.ite (fun _ => Ev.now _) fun _ => ?_
  obtain ⟨v, b, hv, x, y⟩ := cut_both a0 a1 a2 a3 a4 a5 a6 a7 a8 a9 most (wf_i64 h8)
  obtain ⟨l', m, h⟩ := markBundleS_held v hv
  have eqs := eqBundleS_self v (by omega)
  refine Ev.bind x (Ev.bind y (Ev.bind eqs (Ev.ite_pos rfl ?_)))
  refine Ev.step (fun k => by rw [laws_FnExactCutBundle.j0]) ?_
  refine Ev.ite_neg (by simp) (Ev.bind m (Ev.bind h (Ev.ite_neg (by omega) (Ev.ite_pos rfl ?_))))
  simp only [laws_toBundle.f, Option.bind_some]
  refine Ev.bind y (Ev.bind eqs (Ev.ite_pos rfl ?_))
  refine Ev.step (fun k => by rw [laws_FnExactCutBundle.j1]) ?_
  refine Ev.ite_neg (by simp) (Ev.bind h ?_)
  exact Ev.ite_neg (by omega) (Ev.ite_pos rfl (Ev.now _))

end Go.Proofs.Ytkljbkminihlbaa.Pure
