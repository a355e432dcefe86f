import Derived.Test.YtaffjcaohbkmoaaDoorQFnLivesx7
import Derived.Test.YtaffjcaohbkmoaaDoorPlain
import Derived.Test.YtaffjcaohbkmoaaDoorGoalFnLives
set_option linter.unusedVariables false
set_option linter.unusedSimpArgs false
namespace Go.Proofs.YtaffjcaohbkmoaaDoor.Pure
open Go.RowKit Go.Proofs.YtaffjcaohbkmoaaDoor.QFnLives Go.Proofs.YtaffjcaohbkmoaaDoorW.PrintWords Go.Proofs.YtaffjcaohbkmoaaDoorW.PrintLast Go.Proofs.YtaffjcaohbkmoaaDoor.Plain Go.Proofs.YtaffjcaohbkmoaaDoor.GoalFnLives
def GoodP (f t mk no life hops off tot : Int) (n : Nat) : Prop :=
  (0 ≤ f ∧ f ≤ 40) ∧ (0 ≤ t ∧ t ≤ 40) ∧ (0 ≤ mk ∧ mk ≤ 1000000) ∧ (0 ≤ no ∧ no ≤ 1000) ∧ (1 ≤ life ∧ life ≤ 1000000) ∧ (0 ≤ hops ∧ hops ≤ 30) ∧ n ≤ 60 ∧
    ((tot = 0 ∧ off = 0) ∨ (1 ≤ tot ∧ tot ≤ 60 ∧ 0 ≤ off ∧ off + n ≤ tot ∧ 0 < n))
instance (f t mk no life hops off tot : Int) (n : Nat) : Decidable (GoodP f t mk no life hops off tot n) := by unfold GoodP; infer_instance
theorem specIn (a b c : Int) : spec_l1In.f a b c = some (decide (b ≤ a ∧ a ≤ c)) := by
  unfold spec_l1In.f
  by_cases h : b ≤ a <;> simp [h]
theorem specGood (a0 a1 : Int) (a2 : Bool) (a3 a4 a5 a6 a7 a8 : Int) (a9 : ByteArray) : spec_GoodBundle.f a0 a1 a2 a3 a4 a5 a6 a7 a8 a9 = some (decide (GoodP a0 a1 a3 a4 a5 a6 a7 a8 a9.size)) := by
  unfold spec_GoodBundle.f
  simp only [specIn, Option.bind_some, decide_eq_true_eq]
  by_cases h0 : 0 ≤ a0 ∧ a0 ≤ 40
  · rw [if_pos h0]
    by_cases h1 : 0 ≤ a1 ∧ a1 ≤ 40
    · rw [if_pos h1]
      by_cases h3 : 0 ≤ a3 ∧ a3 ≤ 1000000
      · rw [if_pos h3]
        by_cases h4 : 0 ≤ a4 ∧ a4 ≤ 1000
        · rw [if_pos h4]
          by_cases h5 : 1 ≤ a5 ∧ a5 ≤ 1000000
          · rw [if_pos h5]
            by_cases h6 : 0 ≤ a6 ∧ a6 ≤ 30
            · rw [if_pos h6]
              by_cases hn : (a9.size : Int) > 60
              · rw [if_pos hn]; exact congrArg some (decide_eq_false (by unfold GoodP; omega)).symm
              · rw [if_neg hn]
                by_cases h8 : 0 ≤ a8 ∧ a8 ≤ 60
                · rw [if_pos h8]
                  by_cases h7 : 0 ≤ a7 ∧ a7 ≤ a8
                  · rw [if_pos h7]
                    by_cases hz : a8 = 0
                    · rw [if_pos hz]; exact congrArg some (decide_eq_true (by unfold GoodP; omega)).symm
                    · rw [if_neg hz]
                      by_cases hp : (a9.size : Int) > 0
                      · rw [if_pos hp, w64 (by omega) (by omega)]
                        refine congrArg some (decide_eq_decide.mpr ?_)
                        unfold GoodP; omega
                      · rw [if_neg hp]; exact congrArg some (decide_eq_false (by unfold GoodP; omega)).symm
                  · rw [if_neg h7]; exact congrArg some (decide_eq_false (by unfold GoodP; omega)).symm
                · rw [if_neg h8]; exact congrArg some (decide_eq_false (by unfold GoodP; omega)).symm
            · rw [if_neg h6]; exact congrArg some (decide_eq_false (by unfold GoodP; omega)).symm
          · rw [if_neg h5]; exact congrArg some (decide_eq_false (by unfold GoodP; omega)).symm
        · rw [if_neg h4]; exact congrArg some (decide_eq_false (by unfold GoodP; omega)).symm
      · rw [if_neg h3]; exact congrArg some (decide_eq_false (by unfold GoodP; omega)).symm
    · rw [if_neg h1]; exact congrArg some (decide_eq_false (by unfold GoodP; omega)).symm
  · rw [if_neg h0]; exact congrArg some (decide_eq_false (by unfold GoodP; omega)).symm
theorem implWithin (a b c : Int) : impl_within.f a b c = some (decide (b ≤ a ∧ a ≤ c)) := by
  unfold impl_within.f
  by_cases h : b ≤ a <;> simp [h]
theorem implGood_no (a0 a1 : Int) (a2 : Bool) (a3 a4 a5 a6 a7 a8 : Int) (a9 : ByteArray) : Ev (fun k => impl_GoodBundle.j0 k true a0 a1 a2 a3 a4 a5 a6 a7 a8 a9) false := by
  refine Ev.step (fun k => by rw [impl_GoodBundle.j0]) ?_
  exact Ev.ite_pos rfl (Ev.now _)
theorem isEmpty_size (s : ByteArray) : s.toList.isEmpty = decide (s.size = 0) := by
  rw [ByteArray.toList_eq, ← size_data]
  cases s.data.toList <;> simp
theorem implGood_end (a0 a1 : Int) (a2 : Bool) (a3 a4 a5 a6 a7 a8 : Int) (a9 : ByteArray) (h8 : -9223372036854775808 ≤ a8 ∧ a8 ≤ 9223372036854775807) (h : a9.size ≤ 60) :
    Ev (fun k => impl_GoodBundle.j0 k (decide ((a9.size : Int) > 60)) a0 a1 a2 a3 a4 a5 a6 a7 a8 a9) (decide ((a8 = 0 ∧ a7 = 0) ∨ (1 ≤ a8 ∧ a8 ≤ 60 ∧ 0 ≤ a7 ∧ a7 + a9.size ≤ a8 ∧ 0 < a9.size))) := by
  rw [decide_eq_false (show ¬ (a9.size : Int) > 60 by omega)]
  refine Ev.step (fun k => by rw [impl_GoodBundle.j0]) ?_
  refine Ev.ite_neg (by simp) ?_
  by_cases hz : a8 = 0
  · refine Ev.ite_pos hz (Ev.now' ?_)
    rw [show (a7 == 0) = decide (a7 = 0) from rfl]
    exact decide_eq_decide.mpr (by omega)
  · refine Ev.ite_neg hz ?_
    rw [implWithin, implWithin, isEmpty_size]
    simp only [Option.bind_some, decide_eq_true_eq]
    by_cases h1 : 1 ≤ a8 ∧ a8 ≤ 60
    · refine Ev.ite_pos h1 ?_
      rw [w64 (by omega) (by omega)]
      by_cases h2 : 0 ≤ a7 ∧ a7 ≤ a8 - (a9.size : Int)
      · refine Ev.ite_pos h2 (Ev.now' ?_)
        by_cases h3 : a9.size = 0
        · rw [decide_eq_true h3, decide_eq_false (show ¬ _ by omega)]; rfl
        · rw [decide_eq_false h3, decide_eq_true (show _ by omega)]; rfl
      · refine Ev.ite_neg h2 (Ev.now' (decide_eq_false (by omega)).symm)
    · refine Ev.ite_neg h1 (Ev.now' (decide_eq_false (by omega)).symm)
theorem implGood (a0 a1 : Int) (a2 : Bool) (a3 a4 a5 a6 a7 a8 : Int) (a9 : ByteArray) (h8 : -9223372036854775808 ≤ a8 ∧ a8 ≤ 9223372036854775807) :
    Ev (fun k => impl_GoodBundle.f k a0 a1 a2 a3 a4 a5 a6 a7 a8 a9) (decide (GoodP a0 a1 a3 a4 a5 a6 a7 a8 a9.size)) := by
  have no : ¬ GoodP a0 a1 a3 a4 a5 a6 a7 a8 a9.size → Ev (fun k => impl_GoodBundle.j0 k true a0 a1 a2 a3 a4 a5 a6 a7 a8 a9) (decide (GoodP a0 a1 a3 a4 a5 a6 a7 a8 a9.size)) := fun h => by
    rw [decide_eq_false h]; exact implGood_no ..
  simp only [impl_GoodBundle.f, implWithin, Option.bind_some, decide_eq_true_eq]
  refine Ev.ite (fun h0 => ?_) fun h => no (by unfold GoodP; omega)
  refine Ev.ite (fun h1 => ?_) fun h => no (by unfold GoodP; omega)
  refine Ev.ite (fun h3 => ?_) fun h => no (by unfold GoodP; omega)
  refine Ev.ite (fun h4 => ?_) fun h => no (by unfold GoodP; omega)
  refine Ev.ite (fun h5 => ?_) fun h => no (by unfold GoodP; omega)
  refine Ev.ite (fun h6 => ?_) fun h => no (by unfold GoodP; omega)
  by_cases hn : a9.size ≤ 60
  · have e : decide (GoodP a0 a1 a3 a4 a5 a6 a7 a8 a9.size) = decide ((a8 = 0 ∧ a7 = 0) ∨ (1 ≤ a8 ∧ a8 ≤ 60 ∧ 0 ≤ a7 ∧ a7 + a9.size ≤ a8 ∧ 0 < a9.size)) :=
      decide_eq_decide.mpr (by unfold GoodP; omega)
    rw [e]
    exact implGood_end a0 a1 a2 a3 a4 a5 a6 a7 a8 a9 h8 hn
  · rw [decide_eq_true (show (a9.size : Int) > 60 by omega)]
    exact no (by unfold GoodP; omega)
theorem isOver_both (a0 a1 : Int) (a2 : Bool) (a3 a4 a5 a6 a7 a8 : Int) (a9 : ByteArray) (b : Int) (hb : -9223372036854775808 ≤ a8 ∧ a8 ≤ 9223372036854775807) :
    ∃ r, spec_IsOver.f a0 a1 a2 a3 a4 a5 a6 a7 a8 a9 b = some r ∧ Ev (fun k => impl_IsOver.f k a0 a1 a2 a3 a4 a5 a6 a7 a8 a9 b) r ∧
      (GoodP a0 a1 a3 a4 a5 a6 a7 a8 a9.size ∧ 0 ≤ b ∧ b ≤ 2000000 → r = (decide (a3 + a5 < b), true)) ∧ (¬ (GoodP a0 a1 a3 a4 a5 a6 a7 a8 a9.size ∧ 0 ≤ b ∧ b ≤ 2000000) → r = (false, false)) := by
  have g := implGood a0 a1 a2 a3 a4 a5 a6 a7 a8 a9 hb
  by_cases hg : GoodP a0 a1 a3 a4 a5 a6 a7 a8 a9.size
  · rw [decide_eq_true hg] at g
    have hw : wrap64 (a3 + a5) = a3 + a5 := by unfold GoodP at hg; exact w64 (by omega) (by omega)
    by_cases hn : 0 ≤ b ∧ b ≤ 2000000
    · refine ⟨(decide (a3 + a5 < b), true), by simp [spec_IsOver.f, specGood, specIn, hg, hn, hw], ?_, fun _ => rfl, fun h => absurd ⟨hg, hn⟩ h⟩
      simp only [impl_IsOver.f, implWithin, Option.bind_some, hw]
      exact Ev.bind g (Ev.ite_pos rfl (Ev.ite_pos (by simpa using hn) (Ev.now _)))
    · refine ⟨(false, false), by simp only [spec_IsOver.f, specGood, specIn, hg, decide_true, Option.bind_some, if_true, decide_eq_false hn]; rfl, ?_, fun h => absurd h.2 hn, fun _ => rfl⟩
      simp only [impl_IsOver.f, implWithin, Option.bind_some]
      exact Ev.bind g (Ev.ite_pos rfl (Ev.ite_neg (by simpa using hn) (Ev.now _)))
  · rw [decide_eq_false hg] at g
    refine ⟨(false, false), by simp only [spec_IsOver.f, specGood, hg, decide_false, Option.bind_some]; rfl, ?_, fun h => absurd h.1 hg, fun _ => rfl⟩
    simp only [impl_IsOver.f]
    exact Ev.bind g (Ev.ite_neg (by simp) (Ev.now _))
theorem hopBundle_both (a0 a1 : Int) (a2 : Bool) (a3 a4 a5 a6 a7 a8 : Int) (a9 : ByteArray) (hb : -9223372036854775808 ≤ a8 ∧ a8 ≤ 9223372036854775807) :
    ∃ r, spec_HopBundle.f a0 a1 a2 a3 a4 a5 a6 a7 a8 a9 = some r ∧ Ev (fun k => impl_HopBundle.f k a0 a1 a2 a3 a4 a5 a6 a7 a8 a9) r ∧
      (GoodP a0 a1 a3 a4 a5 a6 a7 a8 a9.size ∧ a6 ≠ 0 → r = (a0, a1, a2, a3, a4, a5, a6 - 1, a7, a8, a9, true)) ∧ (¬ (GoodP a0 a1 a3 a4 a5 a6 a7 a8 a9.size ∧ a6 ≠ 0) → r = (0, 0, false, 0, 0, 0, 0, 0, 0, (⟨#[]⟩ : ByteArray), false)) := by
  have g := implGood a0 a1 a2 a3 a4 a5 a6 a7 a8 a9 hb
  by_cases hg : GoodP a0 a1 a3 a4 a5 a6 a7 a8 a9.size
  · rw [decide_eq_true hg] at g
    have hw : wrap64 (a6 - 1) = a6 - 1 := by unfold GoodP at hg; exact w64 (by omega) (by omega)
    by_cases hz : a6 = 0
    · refine ⟨_, by simp only [spec_HopBundle.f, specGood, hg, decide_true, Option.bind_some, if_true, if_pos hz], ?_, fun h => absurd hz h.2, fun _ => rfl⟩
      simp only [impl_HopBundle.f]
      exact Ev.bind g (Ev.ite_pos rfl (Ev.ite_pos hz (Ev.now _)))
    · refine ⟨_, by simp only [spec_HopBundle.f, specGood, hg, decide_true, Option.bind_some, if_true, if_neg hz, hw], ?_, fun _ => rfl, fun h => absurd ⟨hg, hz⟩ h⟩
      simp only [impl_HopBundle.f, hw]
      exact Ev.bind g (Ev.ite_pos rfl (Ev.ite_neg hz (Ev.now _)))
  · rw [decide_eq_false hg] at g
    refine ⟨_, by simp only [spec_HopBundle.f, specGood, hg, decide_false, Option.bind_some]; exact if_neg (by simp), ?_, fun h => absurd h.1 hg, fun _ => rfl⟩
    simp only [impl_HopBundle.f]
    exact Ev.bind g (Ev.ite_neg (by simp) (Ev.now _))
def numText (n : Nat) : ByteArray := ⟨(Go.Lib.decDigits n).toArray⟩
theorem numText_size (n : Nat) : (numText n).size ≤ n + 1 := by
  induction n using Nat.strongRecOn with
  | _ n ih =>
    unfold numText
    rw [Go.Lib.decDigits]
    by_cases h : n < 10
    · rw [dif_pos h]; show 1 ≤ n + 1; omega
    · rw [dif_neg h]
      have := ih (n / 10) (by omega)
      unfold numText at this
      simp only [ByteArray.size, List.size_toArray, List.length_append, List.length_singleton] at this ⊢
      omega
theorem specNum (n : Nat) : n ≤ 100000000 → Ev (fun k => spec_l1Num.f k (n : Int)) (numText n) := by
  induction n using Nat.strongRecOn with
  | _ n ih =>
    intro hn
    refine Ev.step (fun k => by rw [spec_l1Num.f]) ?_
    by_cases h : n < 10
    · refine Ev.ite_pos (by omega) (Ev.now' ?_)
      have e : numText n = ⟨#[UInt8.ofNat (48 + n)]⟩ := by unfold numText; rw [Go.Lib.decDigits, dif_pos h]
      rw [e, w64 (by omega) (by omega)]
      apply str_ext
      rw [strOfNums_data]
      simp only [List.map_cons, List.map_nil]
      congr 2
      omega
    · have n1 := ih (n / 10) (by omega) (by omega)
      have z1 := numText_size (n / 10)
      have e : numText n = numText (n / 10) ++ strOfNums [(wrap64 (48 + (Int.tmod (n : Int) 10))) % 256] := by
        apply str_ext
        rw [ByteArray.data_append, Array.toList_append, strOfNums_data]
        unfold numText
        conv => lhs; rw [Go.Lib.decDigits, dif_neg h]
        simp only [List.map_cons, List.map_nil]
        congr 3
        have t0 : Int.tmod (n : Int) 10 = ((n % 10 : Nat) : Int) := by rw [Int.tmod_eq_emod_of_nonneg (by omega)]; omega
        rw [t0, w64 (by omega) (by omega)]
        omega
      have t1 : wrap64 (Int.tdiv (n : Int) 10) = ((n / 10 : Nat) : Int) := by
        rw [Int.tdiv_eq_ediv_of_nonneg (by omega), w64 (by omega) (by omega)]; omega
      rw [t1]
      refine Ev.ite_neg (by omega) (Ev.bind n1 (Ev.some_bind (Ev.ite_pos ?_ (Ev.now' e.symm))))
      rw [strOfNums_size]
      simp only [List.length_cons, List.length_nil]
      omega
theorem implItoa (n : Nat) (h : n ≤ 100000000) : strconv_Itoa_30.f (n : Int) = some (numText n) := by
  unfold strconv_Itoa_30.f
  rw [if_pos (by omega), Go.Lib.itoa_nonneg]
  rfl
def idText (a b c : Nat) : ByteArray := (((numText a ++ (⟨#[46]⟩ : ByteArray)) ++ numText b) ++ (⟨#[46]⟩ : ByteArray)) ++ numText c
theorem idOf_both {a0 a1 : Int} {a2 : Bool} {a3 a4 a5 a6 a7 a8 : Int} {a9 : ByteArray} (h : GoodP a0 a1 a3 a4 a5 a6 a7 a8 a9.size) :
    Ev (fun k => spec_l3Id.f k a0 a1 a2 a3 a4 a5 a6 a7 a8 a9) (idText a0.toNat a3.toNat a4.toNat) ∧ impl_idOf.f a0 a1 a2 a3 a4 a5 a6 a7 a8 a9 = some (idText a0.toNat a3.toNat a4.toNat) := by
  have hb : (0 ≤ a0 ∧ a0 ≤ 40) ∧ (0 ≤ a3 ∧ a3 ≤ 1000000) ∧ 0 ≤ a4 ∧ a4 ≤ 1000 := by unfold GoodP at h; omega
  clear h
  obtain ⟨⟨h0, h0'⟩, ⟨h3, h3'⟩, h4, h4'⟩ := hb
  obtain ⟨a, rfl⟩ := Int.eq_ofNat_of_zero_le h0
  obtain ⟨b, rfl⟩ := Int.eq_ofNat_of_zero_le h3
  obtain ⟨c, rfl⟩ := Int.eq_ofNat_of_zero_le h4
  have za := numText_size a
  have zb := numText_size b
  have zc := numText_size c
  have sa := specNum a (by omega)
  have sb := specNum b (by omega)
  have sc := specNum c (by omega)
  have ia := implItoa a (by omega)
  have ib := implItoa b (by omega)
  have ic := implItoa c (by omega)
  simp only [Int.toNat_natCast, idText]
  generalize numText a = x at *
  generalize numText b = y at *
  generalize numText c = z at *
  refine ⟨?_, ?_⟩
  · simp only [spec_l3Id.f]
    exact Ev.bind sa (Ev.ite_pos (by omega) (Ev.bind sb (Ev.ite_pos (by omega) (Ev.ite_pos (by omega) (Ev.bind sc (Ev.ite_pos (by omega) (Ev.now _)))))))
  · unfold impl_idOf.f
    rw [ia, Option.bind_some, if_pos (by omega), ib, Option.bind_some, if_pos (by omega), if_pos (by omega), ic, Option.bind_some, if_pos (by omega)]
theorem idOf_told (a0 a1 : Int) (a2 : Bool) (a3 a4 a5 a6 a7 a8 : Int) (a9 : ByteArray) (hb : -9223372036854775808 ≤ a8 ∧ a8 ≤ 9223372036854775807) :
    ∃ r : ByteArray × Bool, Ev (fun k => spec_IdOf.f k a0 a1 a2 a3 a4 a5 a6 a7 a8 a9) r ∧ Ev (fun k => impl_IdOf.f k a0 a1 a2 a3 a4 a5 a6 a7 a8 a9) r ∧
      (GoodP a0 a1 a3 a4 a5 a6 a7 a8 a9.size → r = (idText a0.toNat a3.toNat a4.toNat, true)) ∧ (¬ GoodP a0 a1 a3 a4 a5 a6 a7 a8 a9.size → r = ((⟨#[]⟩ : ByteArray), false)) := by
  have g := implGood a0 a1 a2 a3 a4 a5 a6 a7 a8 a9 hb
  have s := specGood a0 a1 a2 a3 a4 a5 a6 a7 a8 a9
  simp only [spec_IdOf.f, impl_IdOf.f]
  by_cases hg : GoodP a0 a1 a3 a4 a5 a6 a7 a8 a9.size
  · rw [decide_eq_true hg] at g s
    obtain ⟨x, y⟩ := idOf_both (a2 := a2) hg
    exact ⟨_, Ev.opt_bind s (Ev.ite_pos rfl (Ev.bind x (Ev.now _))), Ev.bind g (Ev.ite_pos rfl (Ev.opt_bind y (Ev.now _))), fun _ => rfl, fun h => absurd hg h⟩
  · rw [decide_eq_false hg] at g s
    exact ⟨_, Ev.opt_bind s (Ev.ite_neg (by simp) (Ev.now _)), Ev.bind g (Ev.ite_neg (by simp) (Ev.now _)), fun h => absurd h hg, fun _ => rfl⟩
def sameR (a0 a1 a3 a4 a5 a6 a7 a8 : Int) (a9 : ByteArray) (b0 b1 b3 b4 b5 b6 b7 b8 : Int) (b9 : ByteArray) : Bool × Bool :=
  if GoodP a0 a1 a3 a4 a5 a6 a7 a8 a9.size ∧ GoodP b0 b1 b3 b4 b5 b6 b7 b8 b9.size then ((idText a0.toNat a3.toNat a4.toNat).toList == (idText b0.toNat b3.toNat b4.toNat).toList, true) else (false, false)
theorem implSame (a0 a1 : Int) (a2 : Bool) (a3 a4 a5 a6 a7 a8 : Int) (a9 : ByteArray) (b0 b1 : Int) (b2 : Bool) (b3 b4 b5 b6 b7 b8 : Int) (b9 : ByteArray) (ha : -9223372036854775808 ≤ a8 ∧ a8 ≤ 9223372036854775807) (hb : -9223372036854775808 ≤ b8 ∧ b8 ≤ 9223372036854775807) :
    Ev (fun k => impl_SameBundle.f k a0 a1 a2 a3 a4 a5 a6 a7 a8 a9 b0 b1 b2 b3 b4 b5 b6 b7 b8 b9) (sameR a0 a1 a3 a4 a5 a6 a7 a8 a9 b0 b1 b3 b4 b5 b6 b7 b8 b9) := by
  unfold sameR
  have no : Ev (fun k => impl_SameBundle.j0 k true a0 a1 a2 a3 a4 a5 a6 a7 a8 a9 b0 b1 b2 b3 b4 b5 b6 b7 b8 b9) (false, false) := Ev.step (fun k => by rw [impl_SameBundle.j0]) (Ev.ite_pos rfl (Ev.now _))
  simp only [impl_SameBundle.f]
  have g := implGood a0 a1 a2 a3 a4 a5 a6 a7 a8 a9 ha
  have g' := implGood b0 b1 b2 b3 b4 b5 b6 b7 b8 b9 hb
  by_cases hg : GoodP a0 a1 a3 a4 a5 a6 a7 a8 a9.size
  case neg =>
    rw [decide_eq_false hg] at g
    rw [if_neg (fun h => hg h.1)]
    exact Ev.bind g (Ev.ite_neg (by simp) no)
  rw [decide_eq_true hg] at g
  by_cases hg' : GoodP b0 b1 b3 b4 b5 b6 b7 b8 b9.size
  case neg =>
    rw [decide_eq_false hg'] at g'
    rw [if_neg (fun h => hg' h.2)]
    exact Ev.bind g (Ev.ite_pos rfl (Ev.bind g' no))
  rw [decide_eq_true hg'] at g'
  rw [if_pos ⟨hg, hg'⟩]
  obtain ⟨_, y⟩ := idOf_both (a2 := a2) hg
  obtain ⟨_, y'⟩ := idOf_both (a2 := b2) hg'
  refine Ev.bind g (Ev.ite_pos rfl (Ev.bind g' (Ev.step (fun k => by rw [impl_SameBundle.j0]) (Ev.ite_neg (by simp) ?_))))
  refine Ev.opt_bind y ?_
  refine Ev.opt_bind y' ?_
  exact Ev.now _
def Code (c : List Int) : Prop := c.length ≤ 140737488355328 ∧ ∀ x ∈ c, 0 ≤ x ∧ x ≤ 255
theorem code_of {l : List Int} (h0 : l.length * 1 ≤ 140737488351232) (h : ∀ x ∈ l, (Lit.int .u8 x).wf = true) : Code l := ⟨by omega, fun x hx => wf_u8 (h x hx)⟩
theorem Code.rd {c : List Int} (h : Code c) (i : Int) : 0 ≤ rd c i ∧ rd c i ≤ 255 := by
  unfold Go.Proofs.YtaffjcaohbkmoaaDoorW.PrintWords.rd
  rw [List.getD_eq_getElem?_getD]
  by_cases hi : i.toNat < c.length
  · rw [List.getElem?_eq_getElem hi]
    exact h.2 _ (List.getElem_mem hi)
  · rw [List.getElem?_eq_none (by omega)]
    simp
theorem u64_wraps (n : Int) (h0 : 0 ≤ n) (h1 : n < 2 ^ 64) : IntKind.u64.wrap n = n := by
  have e : IntKind.u64.wrap n = n % 18446744073709551616 := by simp [IntKind.wrap, IntKind.bits, IntKind.signed]
  rw [e]; omega
theorem u64_bd (n : Int) : 0 ≤ IntKind.u64.wrap n ∧ IntKind.u64.wrap n < 2 ^ 64 := by
  have e : IntKind.u64.wrap n = n % 18446744073709551616 := by simp [IntKind.wrap, IntKind.bits, IntKind.signed]
  rw [e]; omega
theorem low_byte (n : Int) : 0 ≤ wrap64 (Go.bits .and .u64 (IntKind.u64.wrap n / 1099511627776) 255) ∧ wrap64 (Go.bits .and .u64 (IntKind.u64.wrap n / 1099511627776) 255) ≤ 255 := by
  obtain ⟨h0, h1⟩ := u64_bd n
  generalize IntKind.u64.wrap n = x at h0 h1 ⊢
  have := bits_mask .u64 64 (by decide) u64_wraps 8 (by omega) (x / 1099511627776) (by omega) (by omega)
  have e : Go.bits .and .u64 (x / 1099511627776) 255 = (x / 1099511627776) % 256 := by simpa using this
  rw [e, w64 (by omega) (by omega)]
  omega
theorem next_val {c : List Int} (hc : Code c) {p : Int} (s : Int) (h0 : 0 ≤ p) (h1 : p ≤ 4611686018427387904) :
    ∃ b s', spec_l1Cur_next.f c p s = some (b, p + 1, s') ∧ 0 ≤ b ∧ b ≤ 255 := by
  have hl := hc.1
  have hw : wrap64 (p + 1) = p + 1 := w64 (by omega) (by omega)
  unfold spec_l1Cur_next.f
  rw [hw]
  by_cases hp : p < (c.length : Int)
  · rw [if_pos hp, if_pos h0, if_pos (show p + 1 ≤ (c.length : Int) by omega)]
    have hr := hc.rd p
    refine ⟨_, _, rfl, ?_⟩
    rw [w64 (by omega) (by omega)]
    exact hr
  · rw [if_neg hp, if_neg (show ¬ p + 1 ≤ (c.length : Int) by omega)]
    exact ⟨_, _, rfl, low_byte _⟩
theorem pick_val {c : List Int} (hc : Code c) {p : Int} (s n : Int) (h0 : 0 ≤ p) (h1 : p ≤ 4611686018427387903) :
    ∃ v p' s', spec_l1Cur_pick.f c p s n = some (v, p', s') ∧ 0 ≤ v ∧ (v < n ∨ n ≤ 1 ∧ v = 0) ∧ p ≤ p' ∧ p' ≤ p + 2 := by
  unfold spec_l1Cur_pick.f
  by_cases hn : n ≤ 1
  · rw [if_pos hn]
    exact ⟨0, p, s, rfl, by omega, .inr ⟨hn, rfl⟩, by omega, by omega⟩
  · rw [if_neg hn]
    obtain ⟨b, s', e, b0, b1⟩ := next_val hc s h0 (by omega)
    rw [e, Option.bind_some]
    by_cases h2 : n > 200
    · rw [if_pos h2]
      obtain ⟨b2, s2, e2, b20, b21⟩ := next_val hc (p := p + 1) s' (by omega) (by omega)
      simp only
      rw [e2, Option.bind_some, if_neg (show ¬ n = 0 by omega)]
      refine ⟨_, _, _, rfl, ?_, .inl ?_, by simp only; omega, by simp only; omega⟩
      · rw [w64 (x := b * 256) (by omega) (by omega), w64 (by omega) (by omega), Int.tmod_eq_emod_of_nonneg (by omega)]
        exact Int.emod_nonneg _ (by omega)
      · rw [w64 (x := b * 256) (by omega) (by omega), w64 (by omega) (by omega), Int.tmod_eq_emod_of_nonneg (by omega)]
        exact Int.emod_lt_of_pos _ (by omega)
    · rw [if_neg h2]
      simp only
      rw [if_neg (show ¬ n = 0 by omega)]
      refine ⟨_, _, _, rfl, ?_, .inl ?_, by omega, by omega⟩
      · rw [Int.tmod_eq_emod_of_nonneg (by omega)]
        exact Int.emod_nonneg _ (by omega)
      · rw [Int.tmod_eq_emod_of_nonneg (by omega)]
        exact Int.emod_lt_of_pos _ (by omega)
theorem among_val {c : List Int} (hc : Code c) {p : Int} (s : Int) (l : List Int) (hl : 2 ≤ l.length) (hb : l.length ≤ 1000000) (h0 : 0 ≤ p) (h1 : p ≤ 4611686018427387903) :
    ∃ v p' s', spec_l1Cur_among.f c p s l = some (v, p', s') ∧ v ∈ l ∧ p ≤ p' ∧ p' ≤ p + 2 := by
  obtain ⟨v, p', s', e, v0, v1, p0, p1⟩ := pick_val hc s (l.length : Int) h0 h1
  have v2 : v < (l.length : Int) := by omega
  unfold spec_l1Cur_among.f
  rw [e, Option.bind_some]
  simp only
  rw [if_pos v0, if_pos v2]
  obtain ⟨n, rfl⟩ := Int.eq_ofNat_of_zero_le v0
  have hn : n < l.length := by omega
  refine ⟨_, _, _, rfl, ?_, p0, p1⟩
  rw [rd_eq l n hn]
  exact List.getElem_mem hn
theorem one_val {c : List Int} (hc : Code c) {p : Int} (s n : Int) (h0 : 0 ≤ p) (h1 : p ≤ 4611686018427387903) :
    ∃ b p' s', spec_l1Cur_one.f c p s n = some (b, p', s') ∧ p ≤ p' ∧ p' ≤ p + 2 := by
  obtain ⟨v, p', s', e, _, _, p0, p1⟩ := pick_val hc s n h0 h1
  unfold spec_l1Cur_one.f
  rw [e, Option.bind_some]
  exact ⟨_, _, _, rfl, p0, p1⟩
theorem of_val {c : List Int} (hc : Code c) {p : Int} (s : Int) (l : List ByteArray) (hl : 2 ≤ l.length) (hb : l.length ≤ 1000000) (h0 : 0 ≤ p) (h1 : p ≤ 4611686018427387903) :
    ∃ v p' s', spec_l1Cur_of.f c p s l = some (v, p', s') ∧ v ∈ l ∧ p ≤ p' ∧ p' ≤ p + 2 := by
  obtain ⟨v, p', s', e, v0, v1, p0, p1⟩ := pick_val hc s (l.length : Int) h0 h1
  have v2 : v < (l.length : Int) := by omega
  unfold spec_l1Cur_of.f
  rw [e, Option.bind_some]
  simp only
  rw [if_pos v0, if_pos v2]
  obtain ⟨n, rfl⟩ := Int.eq_ofNat_of_zero_le v0
  have hn : n < l.length := by omega
  refine ⟨_, _, _, rfl, ?_, p0, p1⟩
  simp only [rdOf, Int.toNat_natCast]
  rw [List.getD_eq_getElem?_getD, List.getElem?_eq_getElem hn]
  exact List.getElem_mem hn
theorem bundle1_val {c : List Int} (hc : Code c) (p s : Int) (h0 : 0 ≤ p) (h1 : p ≤ 4611686018427380000) (x0 x1 : Int) (x2 : Bool) (x3 x4 x5 x6 x7 x8 : Int) (x9 : ByteArray) (h8 : -9223372036854775808 ≤ x8 ∧ x8 ≤ 9223372036854775807) (h9 : x9.size ≤ 27) :
    ∃ (b0 b1 : Int) (b2 : Bool) (b3 b4 b5 b6 b7 b8 : Int) (b9 : ByteArray) (p' s' : Int), Ev (fun k => spec_l1Cur_bundle.j1 k c p s x0 x1 x2 x3 x4 x5 x6 x7 x8 x9) (b0, b1, b2, b3, b4, b5, b6, b7, b8, b9, p', s') ∧
      (-9223372036854775808 ≤ b8 ∧ b8 ≤ 9223372036854775807) ∧ b9.size ≤ 27 ∧ p ≤ p' ∧ p' ≤ p + 10 := by
  obtain ⟨v, p1, s1, e1, _, _, q0, q1⟩ := pick_val hc s 30 h0 (by omega)
  by_cases c0 : v = 0
  · obtain ⟨w, p2, s2, e2, _, r0, r1⟩ := among_val hc (p := p1) s1 ([0, 1000000, 1000001] : List Int) (by decide) (by decide) (by omega) (by omega)
    refine ⟨x0, x1, x2, x3, x4, w, x6, x7, x8, x9, p2, s2, ?h, h8, h9, ?a, ?b⟩
    case h =>
      refine Ev.step (fun k => by rw [spec_l1Cur_bundle.j1]) ?_
      refine Ev.opt_bind e1 ?_; refine Ev.ite_pos c0 ?_; refine Ev.opt_bind e2 ?_; exact Ev.now _
    case a => first | omega | (simp only; omega)
    case b => first | omega | (simp only; omega)
  by_cases c1 : v = 1
  · obtain ⟨w, p2, s2, e2, _, r0, r1⟩ := among_val hc (p := p1) s1 ([(-1), 30, 31] : List Int) (by decide) (by decide) (by omega) (by omega)
    refine ⟨x0, x1, x2, x3, x4, x5, w, x7, x8, x9, p2, s2, ?h, h8, h9, ?a, ?b⟩
    case h =>
      refine Ev.step (fun k => by rw [spec_l1Cur_bundle.j1]) ?_
      refine Ev.opt_bind e1 ?_; refine Ev.ite_neg c0 ?_; refine Ev.ite_pos c1 ?_; refine Ev.opt_bind e2 ?_; exact Ev.now _
    case a => first | omega | (simp only; omega)
    case b => first | omega | (simp only; omega)
  by_cases c2 : v = 2
  · obtain ⟨w, p2, s2, e2, _, _, r0, r1⟩ := pick_val hc (p := p1) s1 70 (by omega) (by omega)
    refine ⟨x0, x1, x2, x3, x4, x5, x6, w, x8, x9, p2, s2, ?h, h8, h9, ?a, ?b⟩
    case h =>
      refine Ev.step (fun k => by rw [spec_l1Cur_bundle.j1]) ?_
      refine Ev.opt_bind e1 ?_; refine Ev.ite_neg c0 ?_; refine Ev.ite_neg c1 ?_; refine Ev.ite_pos c2 ?_; refine Ev.opt_bind e2 ?_; exact Ev.now _
    case a => first | omega | (simp only; omega)
    case b => first | omega | (simp only; omega)
  · refine ⟨x0, x1, x2, x3, x4, x5, x6, x7, x8, x9, p1, s1, ?h, h8, h9, ?a, ?b⟩
    case h =>
      refine Ev.step (fun k => by rw [spec_l1Cur_bundle.j1]) ?_
      refine Ev.opt_bind e1 ?_; refine Ev.ite_neg c0 ?_; refine Ev.ite_neg c1 ?_; refine Ev.ite_neg c2 ?_; exact Ev.now _
    case a => first | omega | (simp only; omega)
    case b => first | omega | (simp only; omega)
theorem bundle0_val {c : List Int} (hc : Code c) (d : Bool) (p s : Int) (h0 : 0 ≤ p) (h1 : p ≤ 4611686018427370000) (x0 x1 : Int) (x2 : Bool) (x3 x4 x5 x6 : Int) (x9 : ByteArray) (h9 : x9.size ≤ 27) :
    ∃ (b0 b1 : Int) (b2 : Bool) (b3 b4 b5 b6 b7 b8 : Int) (b9 : ByteArray) (p' s' : Int), Ev (fun k => spec_l1Cur_bundle.j0 k d c p s x0 x1 x2 x3 x4 x5 x6 0 0 x9) (b0, b1, b2, b3, b4, b5, b6, b7, b8, b9, p', s') ∧
      (-9223372036854775808 ≤ b8 ∧ b8 ≤ 9223372036854775807) ∧ b9.size ≤ 27 ∧ p ≤ p' ∧ p' ≤ p + 20 := by
  cases d with
  | false =>
    obtain ⟨b0, b1, b2, b3, b4, b5, b6, b7, b8, b9, p', s', e, r1, r2, r3, r4⟩ := bundle1_val hc p s h0 (by omega) x0 x1 x2 x3 x4 x5 x6 0 0 x9 (by omega) h9
    exact ⟨b0, b1, b2, b3, b4, b5, b6, b7, b8, b9, p', s', Ev.step (fun k => by rw [spec_l1Cur_bundle.j0]) (Ev.ite_neg (by simp) e), r1, r2, r3, by omega⟩
  | true =>
    obtain ⟨v, p1, s1, e1, _, _, q0, q1⟩ := pick_val hc s 31 h0 (by omega)
    obtain ⟨w, p2, s2, e2, _, _, q2, q3⟩ := pick_val hc (p := p1) s1 4 (by omega) (by omega)
    obtain ⟨b0, b1, b2, b3, b4, b5, b6, b7, b8, b9, p', s', e, r1, r2, r3, r4⟩ := bundle1_val hc p2 s2 (by omega) (by omega) x0 x1 x2 x3 x4 x5 x6 w (wrap64 (30 + v)) x9 (w64_bd _) h9
    exact ⟨b0, b1, b2, b3, b4, b5, b6, b7, b8, b9, p', s', Ev.step (fun k => by rw [spec_l1Cur_bundle.j0]) (Ev.ite_pos rfl (Ev.opt_bind e1 (Ev.opt_bind e2 e))), r1, r2, by omega, by omega⟩
theorem bundle_val {c : List Int} (hc : Code c) (p s : Int) (h0 : 0 ≤ p) (h1 : p ≤ 4611686018427360000) :
    ∃ (b0 b1 : Int) (b2 : Bool) (b3 b4 b5 b6 b7 b8 : Int) (b9 : ByteArray) (p' s' : Int), Ev (fun k => spec_l1Cur_bundle.f k c p s) (b0, b1, b2, b3, b4, b5, b6, b7, b8, b9, p', s') ∧
      (-9223372036854775808 ≤ b8 ∧ b8 ≤ 9223372036854775807) ∧ b9.size ≤ 27 ∧ p ≤ p' ∧ p' ≤ p + 60 := by
  obtain ⟨v1, p1, s1, e1, _, _, q1, r1⟩ := pick_val hc s 5 h0 (by omega)
  obtain ⟨v2, p2, s2, e2, _, _, q2, r2⟩ := pick_val hc (p := p1) s1 5 (by omega) (by omega)
  obtain ⟨v3, p3, s3, e3, q3, r3⟩ := one_val hc (p := p2) s2 3 (by omega) (by omega)
  obtain ⟨v4, p4, s4, e4, _, _, q4, r4⟩ := pick_val hc (p := p3) s3 50 (by omega) (by omega)
  obtain ⟨v5, p5, s5, e5, _, _, q5, r5⟩ := pick_val hc (p := p4) s4 4 (by omega) (by omega)
  obtain ⟨v6, p6, s6, e6, _, _, q6, r6⟩ := pick_val hc (p := p5) s5 90 (by omega) (by omega)
  obtain ⟨v7, p7, s7, e7, _, _, q7, r7⟩ := pick_val hc (p := p6) s6 6 (by omega) (by omega)
  obtain ⟨v8, p8, s8, e8, m8, q8, r8⟩ := of_val hc (p := p7) s7 ([(⟨#[]⟩ : ByteArray), (⟨#[104, 101, 108, 108, 111]⟩ : ByteArray), (⟨#[97, 32, 108, 111, 110, 103, 101, 114, 32, 116, 101, 120, 116, 32, 111, 102, 32, 115, 111, 109, 101, 32, 98, 121, 116, 101, 115]⟩ : ByteArray), (⟨#[0, 255]⟩ : ByteArray)] : List ByteArray) (by decide) (by decide) (by omega) (by omega)
  have h9 : v8.size ≤ 27 := by
    simp only [List.mem_cons, List.not_mem_nil, or_false] at m8
    rcases m8 with rfl | rfl | rfl | rfl <;> decide
  simp only [spec_l1Cur_bundle.f]
  by_cases cE : v8.toList = ([] : List UInt8)
  · obtain ⟨b0, b1, b2, b3, b4, b5, b6, b7, b8, b9, p', s', e, t1, t2, t3, t4⟩ := bundle0_val hc false p8 s8 (by omega) (by omega) v1 v2 v3 v4 v5 (wrap64 (1 + v6)) v7 v8 h9
    exact ⟨b0, b1, b2, b3, b4, b5, b6, b7, b8, b9, p', s', Ev.opt_bind e1 (Ev.opt_bind e2 (Ev.opt_bind e3 (Ev.opt_bind e4 (Ev.opt_bind e5 (Ev.opt_bind e6 (Ev.opt_bind e7 (Ev.opt_bind e8 (Ev.ite_pos cE e)))))))), t1, t2, by omega, by omega⟩
  · obtain ⟨v9, p9, s9, e9, q9, r9⟩ := one_val hc (p := p8) s8 4 (by omega) (by omega)
    obtain ⟨b0, b1, b2, b3, b4, b5, b6, b7, b8, b9, p', s', e, t1, t2, t3, t4⟩ := bundle0_val hc v9 p9 s9 (by omega) (by omega) v1 v2 v3 v4 v5 (wrap64 (1 + v6)) v7 v8 h9
    exact ⟨b0, b1, b2, b3, b4, b5, b6, b7, b8, b9, p', s', Ev.opt_bind e1 (Ev.opt_bind e2 (Ev.opt_bind e3 (Ev.opt_bind e4 (Ev.opt_bind e5 (Ev.opt_bind e6 (Ev.opt_bind e7 (Ev.opt_bind e8 (Ev.ite_neg cE (Ev.opt_bind e9 e))))))))), t1, t2, by omega, by omega⟩
theorem FnLives : Go.Proofs.YtaffjcaohbkmoaaDoor.GoalFnLives.Goal := by
  intro l0 l1 h0 h0' h0'' h1 h1' h1''
  refine Ev.rounds ?_
  have c0 : Code l0 := code_of h0' h0''
  have c1 : Code l1 := code_of h1' h1''
  have big : ∀ x : Int, -9223372036854775808 ≤ x ∧ x ≤ 9223372036854775807 → -9223372036854775808 ≤ x ∧ x ≤ 9223372036854775807 := fun _ h => h
  -- two bundles
  have J5' : ∀ (p q : ByteArray × Bool) (s : Bool × Bool), s.2 = (p.2 && q.2) → (s.2 = true → s.1 = (p.1.toList == q.1.toList)) → Ev (fun k => laws_FnLives.j5 k p.1 p.2 p.1 p.2 q.1 q.2 s.1 s.2) true := by
    intro p q s hs he
    refine Ev.step (fun k => by rw [laws_FnLives.j5]) ?_
    refine Ev.ite_pos (by simp) (Ev.ite_pos rfl ?_)
    cases hp : p.2 with
    | false =>
      rw [hp] at hs
      refine Ev.ite_neg (by simp) (Ev.ite_pos (by rw [hs]; rfl) (Ev.ite_neg (by rw [hs]; simp) (Ev.now _)))
    | true =>
      rw [hp] at hs
      refine Ev.ite_pos rfl (Ev.ite_pos (by rw [hs]; simp) ?_)
      exact Ev.ite (fun h => Ev.now' (by rw [he h]; simp)) (fun _ => Ev.now _)
  have J5 : Ev (fun k => laws_FnLives.j4 k l1) true := by
    refine Ev.step (fun k => by rw [laws_FnLives.j4]) ?_
    have dr : ∃ (b0 b1 : Int) (b2 : Bool) (b3 b4 b5 b6 b7 b8 : Int) (b9 : ByteArray) (d0 d1 : Int) (d2 : Bool) (d3 d4 d5 d6 d7 d8 : Int) (d9 : ByteArray), Ev (fun k => spec_DrawSameBundle.f k l1) (b0, b1, b2, b3, b4, b5, b6, b7, b8, b9, d0, d1, d2, d3, d4, d5, d6, d7, d8, d9) ∧ (-9223372036854775808 ≤ b8 ∧ b8 ≤ 9223372036854775807) ∧ (-9223372036854775808 ≤ d8 ∧ d8 ≤ 9223372036854775807) := by
      obtain ⟨b0, b1, b2, b3, b4, b5, b6, b7, b8, b9, p', s', e, t1, t2, t3, t4⟩ := bundle_val c1 0 0 (by omega) (by omega)
      obtain ⟨d0, d1, d2, d3, d4, d5, d6, d7, d8, d9, p2, s2, e2, u1, u2, u3, u4⟩ := bundle_val c1 p' s' (by omega) (by omega)
      obtain ⟨v, p3, s3, e3, _, _⟩ := one_val c1 (p := p2) s2 2 (by omega) (by omega)
      simp only [spec_DrawSameBundle.f]
      cases v with
      | true =>
        refine ⟨b0, b1, b2, b3, b4, b5, b6, b7, b8, b9, b0, d1, d2, b3, d4, d5, d6, d7, d8, d9, ?_, t1, u1⟩
        refine Ev.bind e ?_
        refine Ev.bind e2 ?_
        refine Ev.opt_bind e3 ?_
        exact Ev.ite_pos rfl (Ev.now _)
      | false =>
        refine ⟨b0, b1, b2, b3, b4, b5, b6, b7, b8, b9, d0, d1, d2, d3, d4, d5, d6, d7, d8, d9, ?_, t1, u1⟩
        refine Ev.bind e ?_
        refine Ev.bind e2 ?_
        refine Ev.opt_bind e3 ?_
        exact Ev.ite_neg (by simp) (Ev.now _)
    obtain ⟨b0, b1, b2, b3, b4, b5, b6, b7, b8, b9, d0, d1, d2, d3, d4, d5, d6, d7, d8, d9, dd, hb, hd⟩ := dr
    obtain ⟨p, xp, yp, gp, np⟩ := idOf_told b0 b1 b2 b3 b4 b5 b6 b7 b8 b9 hb
    obtain ⟨q, xq, yq, gq, nq⟩ := idOf_told d0 d1 d2 d3 d4 d5 d6 d7 d8 d9 hd
    have ys := implSame b0 b1 b2 b3 b4 b5 b6 b7 b8 b9 d0 d1 d2 d3 d4 d5 d6 d7 d8 d9 hb hd
    have gs : GoodP b0 b1 b3 b4 b5 b6 b7 b8 b9.size ∧ GoodP d0 d1 d3 d4 d5 d6 d7 d8 d9.size → sameR b0 b1 b3 b4 b5 b6 b7 b8 b9 d0 d1 d3 d4 d5 d6 d7 d8 d9 = _ := fun h => if_pos h
    have ns : ¬ (GoodP b0 b1 b3 b4 b5 b6 b7 b8 b9.size ∧ GoodP d0 d1 d3 d4 d5 d6 d7 d8 d9.size) → sameR b0 b1 b3 b4 b5 b6 b7 b8 b9 d0 d1 d3 d4 d5 d6 d7 d8 d9 = (false, false) := fun h => if_neg h
    generalize sameR b0 b1 b3 b4 b5 b6 b7 b8 b9 d0 d1 d3 d4 d5 d6 d7 d8 d9 = s at ys gs ns
    refine Ev.bind dd ?_
    refine Ev.bind yp ?_
    refine Ev.bind xp ?_
    refine Ev.bind yq ?_
    refine Ev.bind ys ?_
    refine J5' p q s ?_ ?_
    · by_cases A : GoodP b0 b1 b3 b4 b5 b6 b7 b8 b9.size
      · by_cases B : GoodP d0 d1 d3 d4 d5 d6 d7 d8 d9.size
        · rw [gs ⟨A, B⟩, gp A, gq B]; rfl
        · rw [ns (fun h => B h.2), nq B]; simp
      · rw [ns (fun h => A h.1), np A]; rfl
    · intro h
      by_cases A : GoodP b0 b1 b3 b4 b5 b6 b7 b8 b9.size
      · by_cases B : GoodP d0 d1 d3 d4 d5 d6 d7 d8 d9.size
        · rw [gs ⟨A, B⟩, gp A, gq B]
        · rw [ns (fun h => B h.2)] at h; cases h
      · rw [ns (fun h => A h.1)] at h; cases h
  -- a hop
  have J2 : Ev (fun k => laws_FnLives.j2 k l1) true := by
    refine Ev.step (fun k => by rw [laws_FnLives.j2]) ?_
    obtain ⟨b0, b1, b2, b3, b4, b5, b6, b7, b8, b9, p', s', e, t1, t2, t3, t4⟩ := bundle_val c1 0 0 (by omega) (by omega)
    have dr : Ev (fun k => spec_DrawHopBundle.f k l1) (b0, b1, b2, b3, b4, b5, b6, b7, b8, b9) := by
      simp only [spec_DrawHopBundle.f, spec_DrawGoodBundle.f]
      exact Ev.bind (Ev.bind e (Ev.now _)) (Ev.now _)
    obtain ⟨r, x, y, rg, rn⟩ := hopBundle_both b0 b1 b2 b3 b4 b5 b6 b7 b8 b9 t1
    refine Ev.bind dr ?_
    refine Ev.bind y ?_
    refine Ev.opt_bind x ?_
    refine Ev.ite_neg (by simp) ?_
    simp only [beq_self_eq_true, Bool.not_true, Bool.or_self]
    refine Ev.step (fun k => by rw [laws_FnLives.j3]) (Ev.ite_neg (by simp) ?_)
    by_cases hg : GoodP b0 b1 b3 b4 b5 b6 b7 b8 b9.size ∧ b6 ≠ 0
    case neg =>
      rw [rn hg]
      exact Ev.ite_neg (by simp) J5
    rw [rg hg]
    have hw : wrap64 (b6 - 1) = b6 - 1 := by have h6 : 0 ≤ b6 ∧ b6 ≤ 30 := by have := hg.1; unfold GoodP at this; omega
                                             exact w64 (by omega) (by omega)
    have gx : GoodP b0 b1 b3 b4 b5 (b6 - 1) b7 b8 b9.size := by
      have h2 := hg.2
      have h1 := hg.1
      unfold GoodP at h1 ⊢
      omega
    have ys := implSame b0 b1 b2 b3 b4 b5 (b6 - 1) b7 b8 b9 b0 b1 b2 b3 b4 b5 b6 b7 b8 b9 t1 t1
    rw [show sameR b0 b1 b3 b4 b5 (b6 - 1) b7 b8 b9 b0 b1 b3 b4 b5 b6 b7 b8 b9 = _ from if_pos ⟨gx, hg.1⟩] at ys
    have gd := implGood b0 b1 b2 b3 b4 b5 (b6 - 1) b7 b8 b9 t1
    rw [decide_eq_true gx] at gd
    refine Ev.ite_pos rfl ?_
    refine Ev.bind ys ?_
    exact Ev.ite_pos rfl (Ev.ite_pos (by simp) (Ev.ite_pos hw.symm (Ev.ite_pos rfl (Ev.bind gd (Ev.ite_pos rfl J5)))))
  -- over
  simp only [laws_FnLives.f]
  refine Ev.ite (fun _ => Ev.now _) fun _ => ?_
  have dr : ∃ (b0 b1 : Int) (b2 : Bool) (b3 b4 b5 b6 b7 b8 : Int) (b9 : ByteArray) (n : Int), Ev (fun k => spec_DrawIsOver.f k l0) (b0, b1, b2, b3, b4, b5, b6, b7, b8, b9, n) ∧ (-9223372036854775808 ≤ b8 ∧ b8 ≤ 9223372036854775807) := by
    obtain ⟨b0, b1, b2, b3, b4, b5, b6, b7, b8, b9, p', s', e, t1, t2, t3, t4⟩ := bundle_val c0 0 0 (by omega) (by omega)
    obtain ⟨n, p2, s2, e2, _, _, _⟩ := among_val c0 (p := p') s' ([(-1), 0, 40, 60, 100, 2000000, 2000001] : List Int) (by decide) (by decide) (by omega) (by omega)
    simp only [spec_DrawIsOver.f]
    refine ⟨b0, b1, b2, b3, b4, b5, b6, b7, b8, b9, n, ?_, t1⟩
    refine Ev.bind e ?_
    refine Ev.opt_bind e2 ?_
    exact Ev.now _
  obtain ⟨b0, b1, b2, b3, b4, b5, b6, b7, b8, b9, n, dd, hb⟩ := dr
  obtain ⟨r, x, y, rg, rn⟩ := isOver_both b0 b1 b2 b3 b4 b5 b6 b7 b8 b9 n hb
  refine Ev.bind dd ?_
  refine Ev.bind y ?_
  refine Ev.opt_bind x ?_
  refine Ev.ite_neg (by simp) ?_
  rw [bne_self_eq_false]
  refine Ev.step (fun k => by rw [laws_FnLives.j0]) (Ev.ite_neg (by simp) ?_)
  have J1 : ∀ v : Bool, (v = true → GoodP b0 b1 b3 b4 b5 b6 b7 b8 b9.size ∧ 0 ≤ n ∧ n < 2000000 ∧ b3 + b5 < n) → Ev (fun k => laws_FnLives.j1 k l1 n v b0 b1 b2 b3 b4 b5 b6 b7 b8 b9) true := by
    intro v hv
    refine Ev.step (fun k => by rw [laws_FnLives.j1]) ?_
    cases v with
    | false => exact Ev.ite_neg (by simp) J2
    | true =>
      obtain ⟨g, n0, n1, n2⟩ := hv rfl
      have hw : wrap64 (n + 1) = n + 1 := w64 (by omega) (by omega)
      obtain ⟨r', x', y', rg', _⟩ := isOver_both b0 b1 b2 b3 b4 b5 b6 b7 b8 b9 (n + 1) hb
      rw [hw]
      refine Ev.ite_pos rfl (Ev.bind y' ?_)
      rw [rg' ⟨g, by omega, by omega⟩]
      exact Ev.ite_pos rfl (Ev.ite_pos (decide_eq_true (by omega)) J2)
  by_cases hg : GoodP b0 b1 b3 b4 b5 b6 b7 b8 b9.size ∧ 0 ≤ n ∧ n ≤ 2000000
  case neg =>
    rw [rn hg]
    exact Ev.ite_neg (by simp) (J1 false (fun h => by cases h))
  rw [rg hg]
  refine Ev.ite_pos rfl (Ev.ite (fun h => J1 _ fun h2 => ?_) fun _ => J1 false (fun h => by cases h))
  have e1 := of_decide_eq_true h
  have e2 := of_decide_eq_true h2
  exact ⟨hg.1, hg.2.1, e2, e1⟩
end Go.Proofs.YtaffjcaohbkmoaaDoor.Pure
