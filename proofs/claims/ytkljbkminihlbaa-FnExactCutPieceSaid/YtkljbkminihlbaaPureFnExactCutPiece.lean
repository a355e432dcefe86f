/- What the printed program answers at this law is true, for every argument. -/
import Derived.Test.YtkljbkminihlbaaQFnExactCutPiecex6
import Derived.Test.YtkljbkminihlbaaPlain
import Derived.Test.YtkljbkminihlbaaGoalFnExactCutPiece
set_option linter.unusedVariables false
set_option linter.unusedSimpArgs false
namespace Go.Proofs.Ytkljbkminihlbaa.Pure
open Go.RowKit Go.Proofs.Ytkljbkminihlbaa.QFnExactCutPiece Go.Proofs.YtkljbkminihlbaaW.PrintWords Go.Proofs.YtkljbkminihlbaaW.PrintLast Go.Proofs.Ytkljbkminihlbaa.Plain Go.Proofs.Ytkljbkminihlbaa.GoalFnExactCutPiece

/-- A good bundle, by its numbers and its payload's length. -/
def GoodP (f t mk no life hops off tot : Int) (n : Nat) : Prop :=
  (0 ≤ f ∧ f ≤ 40) ∧ (0 ≤ t ∧ t ≤ 40) ∧ (0 ≤ mk ∧ mk ≤ 1000000) ∧ (0 ≤ no ∧ no ≤ 1000) ∧ (1 ≤ life ∧ life ≤ 1000000) ∧ (0 ≤ hops ∧ hops ≤ 30) ∧ n ≤ 60 ∧
    ((tot = 0 ∧ off = 0) ∨ (1 ≤ tot ∧ tot ≤ 60 ∧ 0 ≤ off ∧ off + n ≤ tot ∧ 0 < n))
instance (f t mk no life hops off tot : Int) (n : Nat) : Decidable (GoodP f t mk no life hops off tot n) := by unfold GoodP; infer_instance
theorem specIn (a b c : Int) : spec_l1In.f a b c = some (decide (b ≤ a ∧ a ≤ c)) := by
  unfold spec_l1In.f
  by_cases h : b ≤ a <;> simp [h]
theorem specGoodH (a0 a1 : Int) (a2 : Bool) (a3 a4 a5 a6 a7 a8 : Int) (a9 : ByteArray) :
    Ev (fun k => spec_GoodBundle.f k a0 a1 a2 a3 a4 a5 a6 a7 a8 a9) (decide (GoodP a0 a1 a3 a4 a5 a6 a7 a8 a9.size)) := by
  have no : ¬ GoodP a0 a1 a3 a4 a5 a6 a7 a8 a9.size → Ev (fun k => spec_GoodBundle.j0 k true a0 a1 a2 a3 a4 a5 a6 a7 a8 a9) (decide (GoodP a0 a1 a3 a4 a5 a6 a7 a8 a9.size)) := fun h => by
    rw [decide_eq_false h]; exact Ev.step (fun k => by rw [spec_GoodBundle.j0]) (Ev.ite_pos rfl (Ev.now _))
  simp only [spec_GoodBundle.f, specIn, Option.bind_some, decide_eq_true_eq]
  refine Ev.ite (fun h0 => ?_) fun h => no (by unfold GoodP; omega)
  refine Ev.ite (fun h1 => ?_) fun h => no (by unfold GoodP; omega)
  refine Ev.ite (fun h3 => ?_) fun h => no (by unfold GoodP; omega)
  refine Ev.ite (fun h4 => ?_) fun h => no (by unfold GoodP; omega)
  refine Ev.ite (fun h5 => ?_) fun h => no (by unfold GoodP; omega)
  refine Ev.ite (fun h6 => ?_) fun h => no (by unfold GoodP; omega)
  refine Ev.ite (fun hn => no (by unfold GoodP; omega)) fun hn => ?_
  refine Ev.ite (fun h8 => ?_) fun h => no (by unfold GoodP; omega)
  by_cases h7 : 0 ≤ a7 ∧ a7 ≤ a8
  case neg =>
    rw [decide_eq_false h7]
    exact no (by unfold GoodP; omega)
  rw [decide_eq_true h7]
  refine Ev.step (fun k => by rw [spec_GoodBundle.j0]) (Ev.ite_neg (by decide) ?_)
  refine Ev.ite (fun hz => Ev.now' (decide_eq_true (by unfold GoodP; omega)).symm) fun hz => ?_
  refine Ev.ite (fun hp => Ev.now' ?_) fun hp => Ev.now' (decide_eq_false (by unfold GoodP; omega)).symm
  rw [w64 (by omega) (by omega)]
  exact decide_eq_decide.mpr (by unfold GoodP; omega)
theorem implWithin (a b c : Int) : impl_within.f a b c = some (decide (b ≤ a ∧ a ≤ c)) := by
  unfold impl_within.f
  by_cases h : b ≤ a <;> simp [h]
theorem implGood_no (a0 a1 : Int) (a2 : Bool) (a3 a4 a5 a6 a7 a8 : Int) (a9 : ByteArray) : Ev (fun k => impl_GoodBundle.j0 k true a0 a1 a2 a3 a4 a5 a6 a7 a8 a9) false := by
  refine Ev.step (fun k => by rw [impl_GoodBundle.j0]) ?_
  exact Ev.ite_pos rfl (Ev.now _)
theorem isEmpty_size (s : ByteArray) : s.toList.isEmpty = decide (s.size = 0) := by
  rw [ByteArray.toList_eq, ← size_data]
  cases s.data.toList <;> simp
theorem implGood_end (a0 a1 : Int) (a2 : Bool) (a3 a4 a5 a6 a7 a8 : Int) (a9 : ByteArray) (h8 : -9223372036854775808 ≤ a8 ∧ a8 ≤ 9223372036854775807) (h : a9.size ≤ 60) :
    Ev (fun k => impl_GoodBundle.j0 k (decide ((a9.size : Int) > 60)) a0 a1 a2 a3 a4 a5 a6 a7 a8 a9) (decide ((a8 = 0 ∧ a7 = 0) ∨ (1 ≤ a8 ∧ a8 ≤ 60 ∧ 0 ≤ a7 ∧ a7 + a9.size ≤ a8 ∧ 0 < a9.size))) := by
  rw [decide_eq_false (show ¬ (a9.size : Int) > 60 by omega)]
  refine Ev.step (fun k => by rw [impl_GoodBundle.j0]) ?_
  refine Ev.ite_neg (by simp) ?_
  by_cases hz : a8 = 0
  · refine Ev.ite_pos hz (Ev.now' ?_)
    rw [show (a7 == 0) = decide (a7 = 0) from rfl]
    exact decide_eq_decide.mpr (by omega)
  · refine Ev.ite_neg hz ?_
    rw [implWithin, implWithin, isEmpty_size]
    simp only [Option.bind_some, decide_eq_true_eq]
    by_cases h1 : 1 ≤ a8 ∧ a8 ≤ 60
    · refine Ev.ite_pos h1 ?_
      rw [w64 (by omega) (by omega)]
      by_cases h2 : 0 ≤ a7 ∧ a7 ≤ a8 - (a9.size : Int)
      · refine Ev.ite_pos h2 (Ev.now' ?_)
        by_cases h3 : a9.size = 0
        · rw [decide_eq_true h3, decide_eq_false (show ¬ _ by omega)]; rfl
        · rw [decide_eq_false h3, decide_eq_true (show _ by omega)]; rfl
      · refine Ev.ite_neg h2 (Ev.now' (decide_eq_false (by omega)).symm)
    · refine Ev.ite_neg h1 (Ev.now' (decide_eq_false (by omega)).symm)
theorem implGood (a0 a1 : Int) (a2 : Bool) (a3 a4 a5 a6 a7 a8 : Int) (a9 : ByteArray) (h8 : -9223372036854775808 ≤ a8 ∧ a8 ≤ 9223372036854775807) :
    Ev (fun k => impl_GoodBundle.f k a0 a1 a2 a3 a4 a5 a6 a7 a8 a9) (decide (GoodP a0 a1 a3 a4 a5 a6 a7 a8 a9.size)) := by
  have no : ¬ GoodP a0 a1 a3 a4 a5 a6 a7 a8 a9.size → Ev (fun k => impl_GoodBundle.j0 k true a0 a1 a2 a3 a4 a5 a6 a7 a8 a9) (decide (GoodP a0 a1 a3 a4 a5 a6 a7 a8 a9.size)) := fun h => by
    rw [decide_eq_false h]; exact implGood_no ..
  simp only [impl_GoodBundle.f, implWithin, Option.bind_some, decide_eq_true_eq]
  refine Ev.ite (fun h0 => ?_) fun h => no (by unfold GoodP; omega)
  refine Ev.ite (fun h1 => ?_) fun h => no (by unfold GoodP; omega)
  refine Ev.ite (fun h3 => ?_) fun h => no (by unfold GoodP; omega)
  refine Ev.ite (fun h4 => ?_) fun h => no (by unfold GoodP; omega)
  refine Ev.ite (fun h5 => ?_) fun h => no (by unfold GoodP; omega)
  refine Ev.ite (fun h6 => ?_) fun h => no (by unfold GoodP; omega)
  by_cases hn : a9.size ≤ 60
  · have e : decide (GoodP a0 a1 a3 a4 a5 a6 a7 a8 a9.size) = decide ((a8 = 0 ∧ a7 = 0) ∨ (1 ≤ a8 ∧ a8 ≤ 60 ∧ 0 ≤ a7 ∧ a7 + a9.size ≤ a8 ∧ 0 < a9.size)) :=
      decide_eq_decide.mpr (by unfold GoodP; omega)
    rw [e]
    exact implGood_end a0 a1 a2 a3 a4 a5 a6 a7 a8 a9 h8 hn
  · rw [decide_eq_true (show (a9.size : Int) > 60 by omega)]
    exact no (by unfold GoodP; omega)
theorem cutPiece_both (a0 a1 : Int) (a2 : Bool) (a3 a4 a5 a6 a7 a8 : Int) (a9 : ByteArray) (at_ : Int) (h8 : -9223372036854775808 ≤ a8 ∧ a8 ≤ 9223372036854775807) (h9 : a9.size ≤ 9223372036854775807) :
    ∃ r, Ev (fun k => spec_CutPiece.f k a0 a1 a2 a3 a4 a5 a6 a7 a8 a9 at_) r ∧ Ev (fun k => impl_CutPiece.f k a0 a1 a2 a3 a4 a5 a6 a7 a8 a9 at_) r := by
  have hi := implGood a0 a1 a2 a3 a4 a5 a6 a7 a8 a9 h8
  have hs := specGoodH a0 a1 a2 a3 a4 a5 a6 a7 a8 a9
  simp only [spec_CutPiece.f, impl_CutPiece.f, impl_isPiece.f, specIn, implWithin, Option.bind_some]
  have noS : Ev (fun k => spec_CutPiece.j0 k at_ true a0 a1 a2 a3 a4 a5 a6 a7 a8 a9) (0, 0, false, 0, 0, 0, 0, 0, 0, (⟨#[]⟩ : ByteArray), 0, 0, false, 0, 0, 0, 0, 0, 0, (⟨#[]⟩ : ByteArray), false) := Ev.step (fun k => by rw [spec_CutPiece.j0]) (Ev.ite_pos rfl (Ev.now _))
  have noI : Ev (fun k => impl_CutPiece.j0 k at_ true a0 a1 a2 a3 a4 a5 a6 a7 a8 a9) (0, 0, false, 0, 0, 0, 0, 0, 0, (⟨#[]⟩ : ByteArray), 0, 0, false, 0, 0, 0, 0, 0, 0, (⟨#[]⟩ : ByteArray), false) := Ev.step (fun k => by rw [impl_CutPiece.j0]) (Ev.ite_pos rfl (Ev.now _))
  by_cases hg : GoodP a0 a1 a3 a4 a5 a6 a7 a8 a9.size
  case neg =>
    rw [decide_eq_false hg] at hi hs
    exact ⟨_, Ev.bind hs (Ev.ite_neg (by decide) noS), Ev.bind (Ev.bind hi (Ev.ite_neg (by decide) (Ev.now _))) (Ev.ite_neg (by decide) noI)⟩
  rw [decide_eq_true hg] at hi hs
  have hg' := hg
  unfold GoodP at hg'
  by_cases h0 : a8 = 0
  · have h01 : ¬ a8 > 0 := by omega
    refine ⟨_, Ev.bind hs (Ev.ite_pos rfl (Ev.ite_pos h0 noS)), Ev.bind (Ev.bind hi (Ev.ite_pos rfl (Ev.now _))) ?_⟩
    rw [decide_eq_false h01]
    exact Ev.ite_neg (by decide) noI
  have h01 : a8 > 0 := by omega
  have hp : Ev (fun k => (impl_GoodBundle.f k a0 a1 a2 a3 a4 a5 a6 a7 a8 a9).bind fun t => if t = true then some (decide (a8 > 0)) else some false) true := by
    refine Ev.bind hi (Ev.ite_pos rfl ?_)
    rw [decide_eq_true h01]
    exact Ev.now _
  have hw : wrap64 ((a9.size : Int) - 1) = (a9.size : Int) - 1 := w64 (by omega) (by omega)
  by_cases hm : 1 ≤ at_ ∧ at_ ≤ (a9.size : Int) - 1
  case neg =>
    refine ⟨(0, 0, false, 0, 0, 0, 0, 0, 0, (⟨#[]⟩ : ByteArray), 0, 0, false, 0, 0, 0, 0, 0, 0, (⟨#[]⟩ : ByteArray), false), Ev.bind hs (Ev.ite_pos rfl (Ev.ite_neg h0 ?_)), Ev.bind hp (Ev.ite_pos rfl ?_)⟩
    · refine Ev.ite (fun _ => noS) fun h1 => ?_
      rw [decide_eq_true (show at_ ≥ (a9.size : Int) by omega)]
      exact noS
    · rw [hw, decide_eq_false hm]
      exact noI
  obtain ⟨n, rfl⟩ := Int.eq_ofNat_of_zero_le (show 0 ≤ at_ by omega)
  have c0 : (0 : Int) ≤ (n : Int) := by omega
  have c1 : (n : Int) ≤ (a9.size : Int) := by omega
  have z0 : wrap64 (a7 + 0) = a7 := by rw [Int.add_zero]; exact w64 (by omega) (by omega)
  refine ⟨(a0, a1, a2, a3, a4, a5, a6, a7, a8, a9.extract 0 n, a0, a1, a2, a3, a4, a5, a6, wrap64 (a7 + (n : Int)), a8, a9.extract n a9.size, true), Ev.bind hs (Ev.ite_pos rfl (Ev.ite_neg h0 (Ev.ite_neg (by omega) ?_))), Ev.bind hp (Ev.ite_pos rfl ?_)⟩
  · rw [decide_eq_false (show ¬ ((n : Int) ≥ (a9.size : Int)) by omega)]
    refine Ev.step (fun k => by rw [spec_CutPiece.j0]) (Ev.ite_neg (by decide) ?_)
    refine Ev.step (fun k => by rw [spec_CutPiece.j1]) (Ev.ite_pos c0 (Ev.ite_pos c1 ?_))
    refine Ev.step (fun k => by rw [spec_CutPiece.j2]) (Ev.ite_pos c0 (Ev.ite_pos c1 ?_))
    refine Ev.step (fun k => by rw [spec_CutPiece.j3]) ?_
    refine Ev.step (fun k => by rw [spec_CutPiece.j4]) ?_
    exact Ev.now _
  · rw [hw, decide_eq_true hm]
    refine Ev.step (fun k => by rw [impl_CutPiece.j0]) (Ev.ite_neg (by decide) ?_)
    simp only [impl_Bundle_cut.f, if_pos (Int.le_refl 0), if_pos c0, if_pos c1, if_pos (Int.le_refl (a9.size : Int)), Option.bind_some, z0]
    exact Ev.now _
theorem szBundle_val (a0 a1 : Int) (a2 : Bool) (a3 a4 a5 a6 a7 a8 : Int) (a9 : ByteArray) (h : a9.size ≤ maxLen) : laws_szBundle.f a0 a1 a2 a3 a4 a5 a6 a7 a8 a9 1048576 = some (if (a9.size : Int) ≤ 1048576 then 1048576 - (a9.size : Int) else -1) := by
  unfold maxLen at h
  unfold laws_szBundle.f
  rw [w64 (by omega) (by omega)]
  by_cases h : (a9.size : Int) ≤ 1048576
  · rw [if_neg (by omega), if_pos h]
  · rw [if_pos (by omega), if_neg h]
theorem eqBundle_self (a0 a1 : Int) (a2 : Bool) (a3 a4 a5 a6 a7 a8 : Int) (a9 : ByteArray) : laws_eqBundle.f a0 a1 a2 a3 a4 a5 a6 a7 a8 a9 a0 a1 a2 a3 a4 a5 a6 a7 a8 a9 = some true := by
  simp [laws_eqBundle.f]
theorem FnExactCutPiece : Go.Proofs.Ytkljbkminihlbaa.GoalFnExactCutPiece.Goal := by
  intro a0 a1 a2 a3 a4 a5 a6 a7 a8 a9 at_ h0 h1 h3 h4 h5 h6 h7 h8 h9 hm
  refine Ev.rounds ?_
  simp only [laws_FnExactCutPiece.f, szBundle_val a0 a1 a2 a3 a4 a5 a6 a7 a8 a9 h9, Option.bind_some, laws_toBundle.f]
  refine Ev.ite (fun _ => Ev.now _) fun _ => ?_
  obtain ⟨r, x, y⟩ := cutPiece_both a0 a1 a2 a3 a4 a5 a6 a7 a8 a9 at_ (wf_i64 h8) h9
  refine Ev.bind x (Ev.bind y ?_)
  simp only [eqBundle_self, Option.bind_some, if_true]
  refine Ev.step (fun k => by rw [laws_FnExactCutPiece.j0]) ?_
  exact Ev.ite_neg (by simp) (Ev.now _)

end Go.Proofs.Ytkljbkminihlbaa.Pure
