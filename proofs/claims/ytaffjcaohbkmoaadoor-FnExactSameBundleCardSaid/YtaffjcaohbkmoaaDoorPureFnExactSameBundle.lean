/- What the printed program answers at this law is true, for every argument. -/
import Derived.Test.YtaffjcaohbkmoaaDoorQFnExactSameBundlex5
import Derived.Test.YtaffjcaohbkmoaaDoorPlain
import Derived.Test.YtaffjcaohbkmoaaDoorGoalFnExactSameBundle
set_option linter.unusedVariables false
set_option linter.unusedSimpArgs false
namespace Go.Proofs.YtaffjcaohbkmoaaDoor.Pure
open Go.RowKit Go.Proofs.YtaffjcaohbkmoaaDoor.QFnExactSameBundle Go.Proofs.YtaffjcaohbkmoaaDoorW.PrintWords Go.Proofs.YtaffjcaohbkmoaaDoorW.PrintLast Go.Proofs.YtaffjcaohbkmoaaDoor.Plain Go.Proofs.YtaffjcaohbkmoaaDoor.GoalFnExactSameBundle

/-- The decimal numeral of a number. -/
def numText (n : Nat) : ByteArray := ⟨(Go.Lib.decDigits n).toArray⟩
theorem numText_size (n : Nat) : (numText n).size ≤ n + 1 := by
  induction n using Nat.strongRecOn with
  | _ n ih =>
    unfold numText
    rw [Go.Lib.decDigits]
    by_cases h : n < 10
    · rw [dif_pos h]; show 1 ≤ n + 1; omega
    · rw [dif_neg h]
      have := ih (n / 10) (by omega)
      unfold numText at this
      simp only [ByteArray.size, List.size_toArray, List.length_append, List.length_singleton] at this ⊢
      omega
theorem specNum (n : Nat) : n ≤ 100000000 → Ev (fun k => spec_l1Num.f k (n : Int)) (numText n) := by
  induction n using Nat.strongRecOn with
  | _ n ih =>
    intro hn
    refine Ev.step (fun k => by rw [spec_l1Num.f]) ?_
    by_cases h : n < 10
    · refine Ev.ite_pos (by omega) (Ev.now' ?_)
      have e : numText n = ⟨#[UInt8.ofNat (48 + n)]⟩ := by unfold numText; rw [Go.Lib.decDigits, dif_pos h]
      rw [e, w64 (by omega) (by omega)]
      apply str_ext
      rw [strOfNums_data]
      simp only [List.map_cons, List.map_nil]
      congr 2
      omega
    · have n1 := ih (n / 10) (by omega) (by omega)
      have z1 := numText_size (n / 10)
      have e : numText n = numText (n / 10) ++ strOfNums [(wrap64 (48 + (Int.tmod (n : Int) 10))) % 256] := by
        apply str_ext
        rw [ByteArray.data_append, Array.toList_append, strOfNums_data]
        unfold numText
        conv => lhs; rw [Go.Lib.decDigits, dif_neg h]
        simp only [List.map_cons, List.map_nil]
        congr 3
        have t0 : Int.tmod (n : Int) 10 = ((n % 10 : Nat) : Int) := by rw [Int.tmod_eq_emod_of_nonneg (by omega)]; omega
        rw [t0, w64 (by omega) (by omega)]
        omega
      have t1 : wrap64 (Int.tdiv (n : Int) 10) = ((n / 10 : Nat) : Int) := by
        rw [Int.tdiv_eq_ediv_of_nonneg (by omega), w64 (by omega) (by omega)]; omega
      rw [t1]
      refine Ev.ite_neg (by omega) (Ev.bind n1 (Ev.some_bind (Ev.ite_pos ?_ (Ev.now' e.symm))))
      rw [strOfNums_size]
      simp only [List.length_cons, List.length_nil]
      omega
theorem implItoa (n : Nat) (h : n ≤ 100000000) : strconv_Itoa_30.f (n : Int) = some (numText n) := by
  unfold strconv_Itoa_30.f
  rw [if_pos (by omega), Go.Lib.itoa_nonneg]
  rfl
/-- A good bundle, by its numbers and its payload's length. -/
def GoodP (f t mk no life hops off tot : Int) (n : Nat) : Prop :=
  (0 ≤ f ∧ f ≤ 40) ∧ (0 ≤ t ∧ t ≤ 40) ∧ (0 ≤ mk ∧ mk ≤ 1000000) ∧ (0 ≤ no ∧ no ≤ 1000) ∧ (1 ≤ life ∧ life ≤ 1000000) ∧ (0 ≤ hops ∧ hops ≤ 30) ∧ n ≤ 60 ∧
    ((tot = 0 ∧ off = 0) ∨ (1 ≤ tot ∧ tot ≤ 60 ∧ 0 ≤ off ∧ off + n ≤ tot ∧ 0 < n))
instance (f t mk no life hops off tot : Int) (n : Nat) : Decidable (GoodP f t mk no life hops off tot n) := by unfold GoodP; infer_instance
/-- What tells a bundle. -/
def idText (a b c : Nat) : ByteArray := (((numText a ++ (⟨#[46]⟩ : ByteArray)) ++ numText b) ++ (⟨#[46]⟩ : ByteArray)) ++ numText c
theorem idOf_both {a0 a1 : Int} {a2 : Bool} {a3 a4 a5 a6 a7 a8 : Int} {a9 : ByteArray} (h : GoodP a0 a1 a3 a4 a5 a6 a7 a8 a9.size) :
    Ev (fun k => spec_l3Id.f k a0 a1 a2 a3 a4 a5 a6 a7 a8 a9) (idText a0.toNat a3.toNat a4.toNat) ∧ impl_idOf.f a0 a1 a2 a3 a4 a5 a6 a7 a8 a9 = some (idText a0.toNat a3.toNat a4.toNat) := by
  have hb : (0 ≤ a0 ∧ a0 ≤ 40) ∧ (0 ≤ a3 ∧ a3 ≤ 1000000) ∧ 0 ≤ a4 ∧ a4 ≤ 1000 := by unfold GoodP at h; omega
  clear h
  obtain ⟨⟨h0, h0'⟩, ⟨h3, h3'⟩, h4, h4'⟩ := hb
  obtain ⟨a, rfl⟩ := Int.eq_ofNat_of_zero_le h0
  obtain ⟨b, rfl⟩ := Int.eq_ofNat_of_zero_le h3
  obtain ⟨c, rfl⟩ := Int.eq_ofNat_of_zero_le h4
  have za := numText_size a
  have zb := numText_size b
  have zc := numText_size c
  have sa := specNum a (by omega)
  have sb := specNum b (by omega)
  have sc := specNum c (by omega)
  have ia := implItoa a (by omega)
  have ib := implItoa b (by omega)
  have ic := implItoa c (by omega)
  simp only [Int.toNat_natCast, idText]
  generalize numText a = x at *
  generalize numText b = y at *
  generalize numText c = z at *
  refine ⟨?_, ?_⟩
  · simp only [spec_l3Id.f]
    exact Ev.bind sa (Ev.ite_pos (by omega) (Ev.bind sb (Ev.ite_pos (by omega) (Ev.ite_pos (by omega) (Ev.bind sc (Ev.ite_pos (by omega) (Ev.now _)))))))
  · unfold impl_idOf.f
    rw [ia, Option.bind_some, if_pos (by omega), ib, Option.bind_some, if_pos (by omega), if_pos (by omega), ic, Option.bind_some, if_pos (by omega)]
theorem specIn (a b c : Int) : spec_l1In.f a b c = some (decide (b ≤ a ∧ a ≤ c)) := by
  unfold spec_l1In.f
  by_cases h : b ≤ a <;> simp [h]
theorem specGood (a0 a1 : Int) (a2 : Bool) (a3 a4 a5 a6 a7 a8 : Int) (a9 : ByteArray) : spec_GoodBundle.f a0 a1 a2 a3 a4 a5 a6 a7 a8 a9 = some (decide (GoodP a0 a1 a3 a4 a5 a6 a7 a8 a9.size)) := by
  unfold spec_GoodBundle.f
  simp only [specIn, Option.bind_some, decide_eq_true_eq]
  by_cases h0 : 0 ≤ a0 ∧ a0 ≤ 40
  · rw [if_pos h0]
    by_cases h1 : 0 ≤ a1 ∧ a1 ≤ 40
    · rw [if_pos h1]
      by_cases h3 : 0 ≤ a3 ∧ a3 ≤ 1000000
      · rw [if_pos h3]
        by_cases h4 : 0 ≤ a4 ∧ a4 ≤ 1000
        · rw [if_pos h4]
          by_cases h5 : 1 ≤ a5 ∧ a5 ≤ 1000000
          · rw [if_pos h5]
            by_cases h6 : 0 ≤ a6 ∧ a6 ≤ 30
            · rw [if_pos h6]
              by_cases hn : (a9.size : Int) > 60
              · rw [if_pos hn]; exact congrArg some (decide_eq_false (by unfold GoodP; omega)).symm
              · rw [if_neg hn]
                by_cases h8 : 0 ≤ a8 ∧ a8 ≤ 60
                · rw [if_pos h8]
                  by_cases h7 : 0 ≤ a7 ∧ a7 ≤ a8
                  · rw [if_pos h7]
                    by_cases hz : a8 = 0
                    · rw [if_pos hz]; exact congrArg some (decide_eq_true (by unfold GoodP; omega)).symm
                    · rw [if_neg hz]
                      by_cases hp : (a9.size : Int) > 0
                      · rw [if_pos hp, w64 (by omega) (by omega)]
                        refine congrArg some (decide_eq_decide.mpr ?_)
                        unfold GoodP; omega
                      · rw [if_neg hp]; exact congrArg some (decide_eq_false (by unfold GoodP; omega)).symm
                  · rw [if_neg h7]; exact congrArg some (decide_eq_false (by unfold GoodP; omega)).symm
                · rw [if_neg h8]; exact congrArg some (decide_eq_false (by unfold GoodP; omega)).symm
            · rw [if_neg h6]; exact congrArg some (decide_eq_false (by unfold GoodP; omega)).symm
          · rw [if_neg h5]; exact congrArg some (decide_eq_false (by unfold GoodP; omega)).symm
        · rw [if_neg h4]; exact congrArg some (decide_eq_false (by unfold GoodP; omega)).symm
      · rw [if_neg h3]; exact congrArg some (decide_eq_false (by unfold GoodP; omega)).symm
    · rw [if_neg h1]; exact congrArg some (decide_eq_false (by unfold GoodP; omega)).symm
  · rw [if_neg h0]; exact congrArg some (decide_eq_false (by unfold GoodP; omega)).symm
theorem implWithin (a b c : Int) : impl_within.f a b c = some (decide (b ≤ a ∧ a ≤ c)) := by
  unfold impl_within.f
  by_cases h : b ≤ a <;> simp [h]
theorem implGood_no (a0 a1 : Int) (a2 : Bool) (a3 a4 a5 a6 a7 a8 : Int) (a9 : ByteArray) : Ev (fun k => impl_GoodBundle.j0 k true a0 a1 a2 a3 a4 a5 a6 a7 a8 a9) false := by
  refine Ev.step (fun k => by rw [impl_GoodBundle.j0]) ?_
  exact Ev.ite_pos rfl (Ev.now _)
theorem isEmpty_size (s : ByteArray) : s.toList.isEmpty = decide (s.size = 0) := by
  rw [ByteArray.toList_eq, ← size_data]
  cases s.data.toList <;> simp
theorem implGood_end (a0 a1 : Int) (a2 : Bool) (a3 a4 a5 a6 a7 a8 : Int) (a9 : ByteArray) (h8 : -9223372036854775808 ≤ a8 ∧ a8 ≤ 9223372036854775807) (h : a9.size ≤ 60) :
    Ev (fun k => impl_GoodBundle.j0 k (decide ((a9.size : Int) > 60)) a0 a1 a2 a3 a4 a5 a6 a7 a8 a9) (decide ((a8 = 0 ∧ a7 = 0) ∨ (1 ≤ a8 ∧ a8 ≤ 60 ∧ 0 ≤ a7 ∧ a7 + a9.size ≤ a8 ∧ 0 < a9.size))) := by
  rw [decide_eq_false (show ¬ (a9.size : Int) > 60 by omega)]
  refine Ev.step (fun k => by rw [impl_GoodBundle.j0]) ?_
  refine Ev.ite_neg (by simp) ?_
  by_cases hz : a8 = 0
  · refine Ev.ite_pos hz (Ev.now' ?_)
    rw [show (a7 == 0) = decide (a7 = 0) from rfl]
    exact decide_eq_decide.mpr (by omega)
  · refine Ev.ite_neg hz ?_
    rw [implWithin, implWithin, isEmpty_size]
    simp only [Option.bind_some, decide_eq_true_eq]
    by_cases h1 : 1 ≤ a8 ∧ a8 ≤ 60
    · refine Ev.ite_pos h1 ?_
      rw [w64 (by omega) (by omega)]
      by_cases h2 : 0 ≤ a7 ∧ a7 ≤ a8 - (a9.size : Int)
      · refine Ev.ite_pos h2 (Ev.now' ?_)
        by_cases h3 : a9.size = 0
        · rw [decide_eq_true h3, decide_eq_false (show ¬ _ by omega)]; rfl
        · rw [decide_eq_false h3, decide_eq_true (show _ by omega)]; rfl
      · refine Ev.ite_neg h2 (Ev.now' (decide_eq_false (by omega)).symm)
    · refine Ev.ite_neg h1 (Ev.now' (decide_eq_false (by omega)).symm)
theorem implGood (a0 a1 : Int) (a2 : Bool) (a3 a4 a5 a6 a7 a8 : Int) (a9 : ByteArray) (h8 : -9223372036854775808 ≤ a8 ∧ a8 ≤ 9223372036854775807) :
    Ev (fun k => impl_GoodBundle.f k a0 a1 a2 a3 a4 a5 a6 a7 a8 a9) (decide (GoodP a0 a1 a3 a4 a5 a6 a7 a8 a9.size)) := by
  have no : ¬ GoodP a0 a1 a3 a4 a5 a6 a7 a8 a9.size → Ev (fun k => impl_GoodBundle.j0 k true a0 a1 a2 a3 a4 a5 a6 a7 a8 a9) (decide (GoodP a0 a1 a3 a4 a5 a6 a7 a8 a9.size)) := fun h => by
    rw [decide_eq_false h]; exact implGood_no ..
  simp only [impl_GoodBundle.f, implWithin, Option.bind_some, decide_eq_true_eq]
  refine Ev.ite (fun h0 => ?_) fun h => no (by unfold GoodP; omega)
  refine Ev.ite (fun h1 => ?_) fun h => no (by unfold GoodP; omega)
  refine Ev.ite (fun h3 => ?_) fun h => no (by unfold GoodP; omega)
  refine Ev.ite (fun h4 => ?_) fun h => no (by unfold GoodP; omega)
  refine Ev.ite (fun h5 => ?_) fun h => no (by unfold GoodP; omega)
  refine Ev.ite (fun h6 => ?_) fun h => no (by unfold GoodP; omega)
  by_cases hn : a9.size ≤ 60
  · have e : decide (GoodP a0 a1 a3 a4 a5 a6 a7 a8 a9.size) = decide ((a8 = 0 ∧ a7 = 0) ∨ (1 ≤ a8 ∧ a8 ≤ 60 ∧ 0 ≤ a7 ∧ a7 + a9.size ≤ a8 ∧ 0 < a9.size)) :=
      decide_eq_decide.mpr (by unfold GoodP; omega)
    rw [e]
    exact implGood_end a0 a1 a2 a3 a4 a5 a6 a7 a8 a9 h8 hn
  · rw [decide_eq_true (show (a9.size : Int) > 60 by omega)]
    exact no (by unfold GoodP; omega)
theorem same_told (a0 a1 : Int) (a2 : Bool) (a3 a4 a5 a6 a7 a8 : Int) (a9 : ByteArray) (b0 b1 : Int) (b2 : Bool) (b3 b4 b5 b6 b7 b8 : Int) (b9 : ByteArray) (ha : -9223372036854775808 ≤ a8 ∧ a8 ≤ 9223372036854775807) (hb : -9223372036854775808 ≤ b8 ∧ b8 ≤ 9223372036854775807) :
    ∃ r : Bool × Bool, Ev (fun k => spec_SameBundle.f k a0 a1 a2 a3 a4 a5 a6 a7 a8 a9 b0 b1 b2 b3 b4 b5 b6 b7 b8 b9) r ∧ Ev (fun k => impl_SameBundle.f k a0 a1 a2 a3 a4 a5 a6 a7 a8 a9 b0 b1 b2 b3 b4 b5 b6 b7 b8 b9) r ∧
      (GoodP a0 a1 a3 a4 a5 a6 a7 a8 a9.size ∧ GoodP b0 b1 b3 b4 b5 b6 b7 b8 b9.size → r = ((idText a0.toNat a3.toNat a4.toNat).toList == (idText b0.toNat b3.toNat b4.toNat).toList, true)) ∧
      (¬ (GoodP a0 a1 a3 a4 a5 a6 a7 a8 a9.size ∧ GoodP b0 b1 b3 b4 b5 b6 b7 b8 b9.size) → r = (false, false)) := by
  have g := implGood a0 a1 a2 a3 a4 a5 a6 a7 a8 a9 ha
  have s := specGood a0 a1 a2 a3 a4 a5 a6 a7 a8 a9
  have g' := implGood b0 b1 b2 b3 b4 b5 b6 b7 b8 b9 hb
  have s' := specGood b0 b1 b2 b3 b4 b5 b6 b7 b8 b9
  have noS : Ev (fun k => spec_SameBundle.j0 k true a0 a1 a2 a3 a4 a5 a6 a7 a8 a9 b0 b1 b2 b3 b4 b5 b6 b7 b8 b9) (false, false) := Ev.step (fun k => by rw [spec_SameBundle.j0]) (Ev.ite_pos rfl (Ev.now _))
  have noI : Ev (fun k => impl_SameBundle.j0 k true a0 a1 a2 a3 a4 a5 a6 a7 a8 a9 b0 b1 b2 b3 b4 b5 b6 b7 b8 b9) (false, false) := Ev.step (fun k => by rw [impl_SameBundle.j0]) (Ev.ite_pos rfl (Ev.now _))
  simp only [spec_SameBundle.f, impl_SameBundle.f]
  by_cases hg : GoodP a0 a1 a3 a4 a5 a6 a7 a8 a9.size
  case neg =>
    rw [decide_eq_false hg] at g s
    exact ⟨_, Ev.opt_bind s (Ev.ite_neg (by simp) noS), Ev.bind g (Ev.ite_neg (by simp) noI), fun h => absurd h.1 hg, fun _ => rfl⟩
  rw [decide_eq_true hg] at g s
  by_cases hg' : GoodP b0 b1 b3 b4 b5 b6 b7 b8 b9.size
  case neg =>
    rw [decide_eq_false hg'] at g' s'
    exact ⟨_, Ev.opt_bind s (Ev.ite_pos rfl (Ev.opt_bind s' noS)), Ev.bind g (Ev.ite_pos rfl (Ev.bind g' noI)), fun h => absurd h.2 hg', fun _ => rfl⟩
  rw [decide_eq_true hg'] at g' s'
  obtain ⟨x, y⟩ := idOf_both (a2 := a2) hg
  obtain ⟨x', y'⟩ := idOf_both (a2 := b2) hg'
  refine ⟨((idText a0.toNat a3.toNat a4.toNat).toList == (idText b0.toNat b3.toNat b4.toNat).toList, true), ?_, ?_, fun _ => rfl, fun h => absurd ⟨hg, hg'⟩ h⟩
  · refine Ev.opt_bind s (Ev.ite_pos rfl (Ev.opt_bind s' (Ev.step (fun k => by rw [spec_SameBundle.j0]) (Ev.ite_neg (by simp) ?_))))
    refine Ev.bind x ?_
    refine Ev.bind x' ?_
    exact Ev.now _
  · refine Ev.bind g (Ev.ite_pos rfl (Ev.bind g' (Ev.step (fun k => by rw [impl_SameBundle.j0]) (Ev.ite_neg (by simp) ?_))))
    refine Ev.opt_bind y ?_
    refine Ev.opt_bind y' ?_
    exact Ev.now _
theorem szBundle_val (a0 a1 : Int) (a2 : Bool) (a3 a4 a5 a6 a7 a8 : Int) (a9 : ByteArray) (h : a9.size ≤ maxLen) : laws_szBundle.f a0 a1 a2 a3 a4 a5 a6 a7 a8 a9 1048576 = some (if (a9.size : Int) ≤ 1048576 then 1048576 - (a9.size : Int) else -1) := by
  unfold maxLen at h
  unfold laws_szBundle.f
  rw [w64 (by omega) (by omega)]
  by_cases h : (a9.size : Int) ≤ 1048576
  · rw [if_neg (by omega), if_pos h]
  · rw [if_pos (by omega), if_neg h]
theorem FnExactSameBundle : Go.Proofs.YtaffjcaohbkmoaaDoor.GoalFnExactSameBundle.Goal := by
  intro a0 a1 a2 a3 a4 a5 a6 a7 a8 a9 b0 b1 b2 b3 b4 b5 b6 b7 b8 b9 h0 h1 h3 h4 h5 h6 h7 h8 h9 g0 g1 g3 g4 g5 g6 g7 g8 g9
  refine Ev.rounds ?_
  obtain ⟨r, x, y, _⟩ := same_told a0 a1 a2 a3 a4 a5 a6 a7 a8 a9 b0 b1 b2 b3 b4 b5 b6 b7 b8 b9 (wf_i64 h8) (wf_i64 g8)
  have two : ∀ n : Int, ∃ m, laws_szBundle.f b0 b1 b2 b3 b4 b5 b6 b7 b8 b9 n = some m := fun n => by
    unfold laws_szBundle.f
    split
    · exact ⟨_, rfl⟩
    · exact ⟨_, rfl⟩
  obtain ⟨n, e1⟩ : ∃ n, laws_szBundle.f a0 a1 a2 a3 a4 a5 a6 a7 a8 a9 1048576 = some n := by
    unfold laws_szBundle.f
    split
    · exact ⟨_, rfl⟩
    · exact ⟨_, rfl⟩
  obtain ⟨m, e2⟩ := two n
  simp only [laws_FnExactSameBundle.f, laws_toBundle.f, e1, Option.bind_some]
  refine Ev.ite (fun _ => Ev.now _) fun _ => ?_
  simp only [e2, Option.bind_some]
  refine Ev.ite (fun _ => Ev.now _) fun _ => ?_
  exact Ev.bind x (Ev.bind y (Ev.ite_neg (by simp) (Ev.ite_neg (by simp) (Ev.now _))))

end Go.Proofs.YtaffjcaohbkmoaaDoor.Pure
