import Derived.Test.YtaffjcaohbkmoaaQFnBundlesx21
import Derived.Test.YtaffjcaohbkmoaaPlain
import Derived.Test.YtaffjcaohbkmoaaGoalFnBundles
set_option linter.unusedVariables false
set_option linter.unusedSimpArgs false
namespace Go.Proofs.Ytaffjcaohbkmoaa.Pure
open Go.RowKit Go.Proofs.Ytaffjcaohbkmoaa.QFnBundles Go.Proofs.YtaffjcaohbkmoaaW.PrintWords Go.Proofs.YtaffjcaohbkmoaaW.PrintLast Go.Proofs.Ytaffjcaohbkmoaa.Plain Go.Proofs.Ytaffjcaohbkmoaa.GoalFnBundles
def GoodP (f t mk no life hops off tot : Int) (n : Nat) : Prop :=
  (0 ≤ f ∧ f ≤ 40) ∧ (0 ≤ t ∧ t ≤ 40) ∧ (0 ≤ mk ∧ mk ≤ 1000000) ∧ (0 ≤ no ∧ no ≤ 1000) ∧ (1 ≤ life ∧ life ≤ 1000000) ∧ (0 ≤ hops ∧ hops ≤ 30) ∧ n ≤ 60 ∧
    ((tot = 0 ∧ off = 0) ∨ (1 ≤ tot ∧ tot ≤ 60 ∧ 0 ≤ off ∧ off + n ≤ tot ∧ 0 < n))
instance (f t mk no life hops off tot : Int) (n : Nat) : Decidable (GoodP f t mk no life hops off tot n) := by unfold GoodP; infer_instance
theorem specIn (a b c : Int) : spec_l1In.f a b c = some (decide (b ≤ a ∧ a ≤ c)) := by
  unfold spec_l1In.f
  by_cases h : b ≤ a <;> simp [h]
theorem specGood (a0 a1 : Int) (a2 : Bool) (a3 a4 a5 a6 a7 a8 : Int) (a9 : ByteArray) : spec_GoodBundle.f a0 a1 a2 a3 a4 a5 a6 a7 a8 a9 = some (decide (GoodP a0 a1 a3 a4 a5 a6 a7 a8 a9.size)) := by
  unfold spec_GoodBundle.f
  simp only [specIn, Option.bind_some, decide_eq_true_eq]
  by_cases h0 : 0 ≤ a0 ∧ a0 ≤ 40
  · rw [if_pos h0]
    by_cases h1 : 0 ≤ a1 ∧ a1 ≤ 40
    · rw [if_pos h1]
      by_cases h3 : 0 ≤ a3 ∧ a3 ≤ 1000000
      · rw [if_pos h3]
        by_cases h4 : 0 ≤ a4 ∧ a4 ≤ 1000
        · rw [if_pos h4]
          by_cases h5 : 1 ≤ a5 ∧ a5 ≤ 1000000
          · rw [if_pos h5]
            by_cases h6 : 0 ≤ a6 ∧ a6 ≤ 30
            · rw [if_pos h6]
              by_cases hn : (a9.size : Int) > 60
              · rw [if_pos hn]; exact congrArg some (decide_eq_false (by unfold GoodP; omega)).symm
              · rw [if_neg hn]
                by_cases h8 : 0 ≤ a8 ∧ a8 ≤ 60
                · rw [if_pos h8]
                  by_cases h7 : 0 ≤ a7 ∧ a7 ≤ a8
                  · rw [if_pos h7]
                    by_cases hz : a8 = 0
                    · rw [if_pos hz]; exact congrArg some (decide_eq_true (by unfold GoodP; omega)).symm
                    · rw [if_neg hz]
                      by_cases hp : (a9.size : Int) > 0
                      · rw [if_pos hp, w64 (by omega) (by omega)]
                        refine congrArg some (decide_eq_decide.mpr ?_)
                        unfold GoodP; omega
                      · rw [if_neg hp]; exact congrArg some (decide_eq_false (by unfold GoodP; omega)).symm
                  · rw [if_neg h7]; exact congrArg some (decide_eq_false (by unfold GoodP; omega)).symm
                · rw [if_neg h8]; exact congrArg some (decide_eq_false (by unfold GoodP; omega)).symm
            · rw [if_neg h6]; exact congrArg some (decide_eq_false (by unfold GoodP; omega)).symm
          · rw [if_neg h5]; exact congrArg some (decide_eq_false (by unfold GoodP; omega)).symm
        · rw [if_neg h4]; exact congrArg some (decide_eq_false (by unfold GoodP; omega)).symm
      · rw [if_neg h3]; exact congrArg some (decide_eq_false (by unfold GoodP; omega)).symm
    · rw [if_neg h1]; exact congrArg some (decide_eq_false (by unfold GoodP; omega)).symm
  · rw [if_neg h0]; exact congrArg some (decide_eq_false (by unfold GoodP; omega)).symm
theorem implWithin (a b c : Int) : impl_within.f a b c = some (decide (b ≤ a ∧ a ≤ c)) := by
  unfold impl_within.f
  by_cases h : b ≤ a <;> simp [h]
theorem implGood_no (a0 a1 : Int) (a2 : Bool) (a3 a4 a5 a6 a7 a8 : Int) (a9 : ByteArray) : Ev (fun k => impl_GoodBundle.j0 k true a0 a1 a2 a3 a4 a5 a6 a7 a8 a9) false := by
  refine Ev.step (fun k => by rw [impl_GoodBundle.j0]) ?_
  exact Ev.ite_pos rfl (Ev.now _)
theorem isEmpty_size (s : ByteArray) : s.toList.isEmpty = decide (s.size = 0) := by
  rw [ByteArray.toList_eq, ← size_data]
  cases s.data.toList <;> simp
theorem implGood_end (a0 a1 : Int) (a2 : Bool) (a3 a4 a5 a6 a7 a8 : Int) (a9 : ByteArray) (h8 : -9223372036854775808 ≤ a8 ∧ a8 ≤ 9223372036854775807) (h : a9.size ≤ 60) :
    Ev (fun k => impl_GoodBundle.j0 k (decide ((a9.size : Int) > 60)) a0 a1 a2 a3 a4 a5 a6 a7 a8 a9) (decide ((a8 = 0 ∧ a7 = 0) ∨ (1 ≤ a8 ∧ a8 ≤ 60 ∧ 0 ≤ a7 ∧ a7 + a9.size ≤ a8 ∧ 0 < a9.size))) := by
  rw [decide_eq_false (show ¬ (a9.size : Int) > 60 by omega)]
  refine Ev.step (fun k => by rw [impl_GoodBundle.j0]) ?_
  refine Ev.ite_neg (by simp) ?_
  by_cases hz : a8 = 0
  · refine Ev.ite_pos hz (Ev.now' ?_)
    rw [show (a7 == 0) = decide (a7 = 0) from rfl]
    exact decide_eq_decide.mpr (by omega)
  · refine Ev.ite_neg hz ?_
    rw [implWithin, implWithin, isEmpty_size]
    simp only [Option.bind_some, decide_eq_true_eq]
    by_cases h1 : 1 ≤ a8 ∧ a8 ≤ 60
    · refine Ev.ite_pos h1 ?_
      rw [w64 (by omega) (by omega)]
      by_cases h2 : 0 ≤ a7 ∧ a7 ≤ a8 - (a9.size : Int)
      · refine Ev.ite_pos h2 (Ev.now' ?_)
        by_cases h3 : a9.size = 0
        · rw [decide_eq_true h3, decide_eq_false (show ¬ _ by omega)]; rfl
        · rw [decide_eq_false h3, decide_eq_true (show _ by omega)]; rfl
      · refine Ev.ite_neg h2 (Ev.now' (decide_eq_false (by omega)).symm)
    · refine Ev.ite_neg h1 (Ev.now' (decide_eq_false (by omega)).symm)
theorem implGood (a0 a1 : Int) (a2 : Bool) (a3 a4 a5 a6 a7 a8 : Int) (a9 : ByteArray) (h8 : -9223372036854775808 ≤ a8 ∧ a8 ≤ 9223372036854775807) :
    Ev (fun k => impl_GoodBundle.f k a0 a1 a2 a3 a4 a5 a6 a7 a8 a9) (decide (GoodP a0 a1 a3 a4 a5 a6 a7 a8 a9.size)) := by
  have no : ¬ GoodP a0 a1 a3 a4 a5 a6 a7 a8 a9.size → Ev (fun k => impl_GoodBundle.j0 k true a0 a1 a2 a3 a4 a5 a6 a7 a8 a9) (decide (GoodP a0 a1 a3 a4 a5 a6 a7 a8 a9.size)) := fun h => by
    rw [decide_eq_false h]; exact implGood_no ..
  simp only [impl_GoodBundle.f, implWithin, Option.bind_some, decide_eq_true_eq]
  refine Ev.ite (fun h0 => ?_) fun h => no (by unfold GoodP; omega)
  refine Ev.ite (fun h1 => ?_) fun h => no (by unfold GoodP; omega)
  refine Ev.ite (fun h3 => ?_) fun h => no (by unfold GoodP; omega)
  refine Ev.ite (fun h4 => ?_) fun h => no (by unfold GoodP; omega)
  refine Ev.ite (fun h5 => ?_) fun h => no (by unfold GoodP; omega)
  refine Ev.ite (fun h6 => ?_) fun h => no (by unfold GoodP; omega)
  by_cases hn : a9.size ≤ 60
  · have e : decide (GoodP a0 a1 a3 a4 a5 a6 a7 a8 a9.size) = decide ((a8 = 0 ∧ a7 = 0) ∨ (1 ≤ a8 ∧ a8 ≤ 60 ∧ 0 ≤ a7 ∧ a7 + a9.size ≤ a8 ∧ 0 < a9.size)) :=
      decide_eq_decide.mpr (by unfold GoodP; omega)
    rw [e]
    exact implGood_end a0 a1 a2 a3 a4 a5 a6 a7 a8 a9 h8 hn
  · rw [decide_eq_true (show (a9.size : Int) > 60 by omega)]
    exact no (by unfold GoodP; omega)
def SignsFrom (s : ByteArray) (i : Nat) : Prop := ∀ j : Nat, i ≤ j → j < s.size → 32 ≤ bt s (j : Int) ∧ bt s (j : Int) ≤ 126
theorem SignsFrom.step {s : ByteArray} {i : Nat} (h : i < s.size) : SignsFrom s i ↔ (32 ≤ bt s (i : Int) ∧ bt s (i : Int) ≤ 126) ∧ SignsFrom s (i + 1) := by
  constructor
  · exact fun H => ⟨H i (by omega) h, fun j h1 h2 => H j (by omega) h2⟩
  · rintro ⟨a, b⟩ j h1 h2
    by_cases e : j = i
    · subst e; exact a
    · exact b j (by omega) h2
def OkItem (f0 f1 : Int) (f2 : ByteArray) (f3 : Int) : Prop :=
  (f0 = 1 ∧ 0 ≤ f1 ∧ f1 ≤ 1000000000 ∧ f2.size = 0 ∧ f3 = 0) ∨ (f0 = 2 ∧ f2.size ≤ 60 ∧ f1 = 0 ∧ f3 = 0) ∨ (f0 = 3 ∧ SignsFrom f2 0 ∧ f2.size ≤ 60 ∧ f1 = 0 ∧ f3 = 0) ∨ (f0 = 4 ∧ 0 ≤ f3 ∧ f3 ≤ 40 ∧ f1 = 0 ∧ f2.size = 0)
theorem toList_nil_iff (s : ByteArray) : s.toList = ([] : List UInt8) ↔ s.size = 0 := by
  rw [ByteArray.toList_eq, ← size_data, List.length_eq_zero_iff]
def OkAt (l : List S67) (i : Nat) : Prop := OkItem (rd_T67 l (i : Int)).f0 (rd_T67 l (i : Int)).f1 (rd_T67 l (i : Int)).f2 (rd_T67 l (i : Int)).f3
def headNums (m n : Int) : List Int :=
  if n < 24 then [(32 * m + n) % 256] else if n < 256 then [(32 * m + 24) % 256, n % 256] else if n < 65536 then [(32 * m + 25) % 256, n / 256 % 256, n % 256]
  else [(32 * m + 26) % 256, n / 16777216 % 256, n / 65536 % 256, n / 256 % 256, n % 256]
def headText (m n : Int) : ByteArray := strOfNums (headNums m n)
theorem headNums_len (m n : Int) : 1 ≤ (headNums m n).length ∧ (headNums m n).length ≤ 5 := by
  unfold headNums
  split
  · simp
  · split
    · simp
    · split <;> simp
theorem implHead (m n : Int) (h0 : 0 ≤ m) (h1 : m ≤ 7) (h2 : 0 ≤ n) (h3 : n ≤ 4294967295) : impl_head.f m n = some (headText m n) := by
  have e : wrap64 (32 * m) = 32 * m := w64 (by omega) (by omega)
  unfold impl_head.f headText headNums
  rw [e]
  by_cases a : n < 24
  · rw [if_pos a, if_pos a]; congr 2; simp
  · rw [if_neg a, if_neg a]
    by_cases b : n < 256
    · rw [if_pos b, if_pos b]; congr 2; simp
    · rw [if_neg b, if_neg b]
      by_cases c : n < 65536
      · rw [if_pos c, if_pos c]; congr 2; simp
      · rw [if_neg c, if_neg c]; congr 2; simp
theorem specNumber1 (n : Int) : Ev (fun k => spec_l2Number.f k n 1) (strOfNums [n % 256]) := by
  have w0 : wrap64 (1 - 1) = 0 := by unfold wrap64; omega
  have w1 : wrap64 (0 - 1) = -1 := by unfold wrap64; omega
  simp only [spec_l2Number.f, if_pos (show (0 : Int) ≤ 1 by decide), if_pos (show (1 : Int).toNat ≤ 281474976710656 by decide), w0]
  refine Ev.step (fun k => by rw [spec_l2Number.l0]) ?_
  refine Ev.ite_pos (by decide) (Ev.ite_pos (by decide) (Ev.ite_pos (by decide) ?_))
  rw [w1]
  refine Ev.step (fun k => by rw [spec_l2Number.l0]) ?_
  refine Ev.ite_neg (by decide) ?_
  exact Ev.now' rfl
theorem specNumber2 (n : Int) : Ev (fun k => spec_l2Number.f k n 2) (strOfNums [n / 256 % 256, n % 256]) := by
  have w0 : wrap64 (2 - 1) = 1 := by unfold wrap64; omega
  have w1 : wrap64 (1 - 1) = 0 := by unfold wrap64; omega
  have w2 : wrap64 (0 - 1) = -1 := by unfold wrap64; omega
  simp only [spec_l2Number.f, if_pos (show (0 : Int) ≤ 2 by decide), if_pos (show (2 : Int).toNat ≤ 281474976710656 by decide), w0]
  refine Ev.step (fun k => by rw [spec_l2Number.l0]) ?_
  refine Ev.ite_pos (by decide) (Ev.ite_pos (by decide) (Ev.ite_pos (by decide) ?_))
  rw [w1]
  refine Ev.step (fun k => by rw [spec_l2Number.l0]) ?_
  refine Ev.ite_pos (by decide) (Ev.ite_pos (by decide) (Ev.ite_pos (by simp [List.replicate]) ?_))
  rw [w2]
  refine Ev.step (fun k => by rw [spec_l2Number.l0]) ?_
  refine Ev.ite_neg (by decide) ?_
  exact Ev.now' rfl
theorem specNumber4 (n : Int) (h : 0 ≤ n) : Ev (fun k => spec_l2Number.f k n 4) (strOfNums [n / 16777216 % 256, n / 65536 % 256, n / 256 % 256, n % 256]) := by
  have w0 : wrap64 (4 - 1) = 3 := by unfold wrap64; omega
  have w1 : wrap64 (3 - 1) = 2 := by unfold wrap64; omega
  have w2 : wrap64 (2 - 1) = 1 := by unfold wrap64; omega
  have w3 : wrap64 (1 - 1) = 0 := by unfold wrap64; omega
  have w4 : wrap64 (0 - 1) = -1 := by unfold wrap64; omega
  have e1 : n / 256 / 256 = n / 65536 := by omega
  have e2 : n / 65536 / 256 = n / 16777216 := by omega
  simp only [spec_l2Number.f, if_pos (show (0 : Int) ≤ 4 by decide), if_pos (show (4 : Int).toNat ≤ 281474976710656 by decide), w0]
  refine Ev.step (fun k => by rw [spec_l2Number.l0]) ?_
  refine Ev.ite_pos (by decide) (Ev.ite_pos (by decide) (Ev.ite_pos (by decide) ?_))
  rw [w1]
  refine Ev.step (fun k => by rw [spec_l2Number.l0]) ?_
  refine Ev.ite_pos (by decide) (Ev.ite_pos (by decide) (Ev.ite_pos (by simp [List.replicate]) ?_))
  rw [w2]
  refine Ev.step (fun k => by rw [spec_l2Number.l0]) ?_
  refine Ev.ite_pos (by decide) (Ev.ite_pos (by decide) (Ev.ite_pos (by simp [List.replicate]) ?_))
  rw [w3]
  refine Ev.step (fun k => by rw [spec_l2Number.l0]) ?_
  refine Ev.ite_pos (by decide) (Ev.ite_pos (by decide) (Ev.ite_pos (by simp [List.replicate]) ?_))
  rw [w4]
  refine Ev.step (fun k => by rw [spec_l2Number.l0]) ?_
  refine Ev.ite_neg (by decide) ?_
  rw [e1, e2]
  exact Ev.now' rfl
theorem specHead (m n : Int) (h0 : 0 ≤ m) (h1 : m ≤ 7) (h2 : 0 ≤ n) (h3 : n ≤ 4294967295) : Ev (fun k => spec_l2Head.f k m n) (headText m n) := by
  have e : wrap64 (32 * m) = 32 * m := w64 (by omega) (by omega)
  unfold headText headNums
  simp only [spec_l2Head.f, e]
  by_cases a : n < 24
  · simp only [if_pos a, w64 (show -9223372036854775808 ≤ 32 * m + n by omega) (show 32 * m + n ≤ 9223372036854775807 by omega)]
    exact Ev.bind (specNumber1 _) (Ev.now _)
  · simp only [if_neg a]
    by_cases b : n < 256
    · simp only [if_pos b, w64 (show -9223372036854775808 ≤ 32 * m + 24 by omega) (show 32 * m + 24 ≤ 9223372036854775807 by omega)]
      refine Ev.bind (specNumber1 _) (Ev.bind (specNumber1 _) ?_)
      simp only [strOfNums_size]
      refine Ev.ite_pos (by simp) ?_
      exact Ev.now' (by rw [← strOfNums_append]; rfl)
    · simp only [if_neg b]
      by_cases c : n < 65536
      · simp only [if_pos c, w64 (show -9223372036854775808 ≤ 32 * m + 25 by omega) (show 32 * m + 25 ≤ 9223372036854775807 by omega)]
        refine Ev.bind (specNumber1 _) (Ev.bind (specNumber2 _) ?_)
        simp only [strOfNums_size]
        refine Ev.ite_pos (by simp) ?_
        exact Ev.now' (by rw [← strOfNums_append]; rfl)
      · simp only [if_neg c, w64 (show -9223372036854775808 ≤ 32 * m + 26 by omega) (show 32 * m + 26 ≤ 9223372036854775807 by omega)]
        refine Ev.bind (specNumber1 _) (Ev.bind (specNumber4 _ (by omega)) ?_)
        simp only [strOfNums_size]
        refine Ev.ite_pos (by simp) ?_
        exact Ev.now' (by rw [← strOfNums_append]; rfl)
def itemText (f0 f1 : Int) (f2 : ByteArray) (f3 : Int) : ByteArray :=
  if f0 = 1 then headText 0 f1 else if f0 = 2 then headText 2 (f2.size : Int) ++ f2 else if f0 = 3 then headText 3 (f2.size : Int) ++ f2 else headText 4 f3
def itemsText : List S67 → ByteArray
  | [] => ⟨#[]⟩
  | x :: l => itemText x.f0 x.f1 x.f2 x.f3 ++ itemsText l
theorem headText_size (m n : Int) : 1 ≤ (headText m n).size ∧ (headText m n).size ≤ 5 := by
  have := headNums_len m n
  unfold headText
  rw [strOfNums_size]
  exact this
theorem itemText_size {f0 f1 : Int} {f2 : ByteArray} {f3 : Int} (h : OkItem f0 f1 f2 f3) : (itemText f0 f1 f2 f3).size ≤ 65 := by
  have := headText_size 0 f1
  have := headText_size 2 (f2.size : Int)
  have := headText_size 3 (f2.size : Int)
  have := headText_size 4 f3
  unfold OkItem at h
  unfold itemText
  split
  · omega
  · split
    · rw [ByteArray.size_append]; omega
    · split
      · rw [ByteArray.size_append]; omega
      · omega
theorem append_empty (s : ByteArray) : s ++ (⟨#[]⟩ : ByteArray) = s := by
  apply str_ext
  simp
theorem append_assoc' (a b c : ByteArray) : a ++ b ++ c = a ++ (b ++ c) := by
  apply str_ext
  simp
theorem rdT_eq (l : List S67) (i : Nat) (h : i < l.length) : rd_T67 l (i : Int) = l[i] := by
  simp [rd_T67, List.getD_eq_getElem?_getD, List.getElem?_eq_getElem h]
theorem bytes_go (l : List S67) (hl : l.length ≤ 1048576) (ok : ∀ i : Nat, i < l.length → OkAt l i) (d : Nat) : ∀ (i : Nat) (t : ByteArray), i ≤ l.length → l.length - i = d → t.size ≤ 65 * i →
    Ev (fun k => spec_l2Bytes.l0 k t l (l.length : Int) (i : Int)) (t ++ itemsText (l.drop i)) ∧ Ev (fun k => impl_itemsBytes.l0 k t l (l.length : Int) (i : Int)) (t ++ itemsText (l.drop i)) := by
  induction d with
  | zero =>
    intro i t h0 hd ht
    rw [List.drop_eq_nil_of_le (by omega)]
    simp only [itemsText, append_empty]
    constructor
    · refine Ev.step (fun k => by rw [spec_l2Bytes.l0]) ?_
      exact Ev.ite_neg (by omega) (Ev.now _)
    · refine Ev.step (fun k => by rw [impl_itemsBytes.l0]) ?_
      exact Ev.ite_neg (by omega) (Ev.now _)
  | succ d ih =>
    intro i t h0 hd ht
    have hi : i < l.length := by omega
    have hok := ok i hi
    have hsz := itemText_size hok
    have hw : wrap64 ((i : Int) + 1) = ((i + 1 : Nat) : Int) := by rw [w64 (by omega) (by omega)]; omega
    have hp : (i : Int) < (l.length : Int) := by omega
    have hz : (0 : Int) ≤ (i : Int) := by omega
    have hx := rdT_eq l i hi
    obtain ⟨a, b⟩ := ih (i + 1) (t ++ itemText l[i].f0 l[i].f1 l[i].f2 l[i].f3) (by omega) (by omega) (by rw [ByteArray.size_append]; rw [hx] at hsz; omega)
    rw [List.drop_eq_getElem_cons hi]
    simp only [itemsText, ← append_assoc']
    unfold OkAt at hok
    have s2 := headText_size 2 (l[i].f2.size : Int)
    have s3 := headText_size 3 (l[i].f2.size : Int)
    have s1 := headText_size 0 l[i].f1
    have s4 := headText_size 4 l[i].f3
    constructor
    · refine Ev.step (fun k => by rw [spec_l2Bytes.l0]) ?_
      refine Ev.ite_pos hp (Ev.ite_pos hz (Ev.ite_pos hp ?_))
      rw [hx] at hok ⊢
      revert hok a
      generalize l[i] = x at s1 s2 s3 s4
      intro hok a
      rw [hw]
      unfold OkItem at hok
      unfold itemText at a ⊢
      by_cases h1 : x.f0 = 1
      · rw [if_pos h1] at a ⊢
        exact Ev.ite_pos h1 (Ev.bind (specHead 0 x.f1 (by omega) (by omega) (by omega) (by omega)) (Ev.ite_pos (by omega) a))
      · rw [if_neg h1] at a ⊢
        refine Ev.ite_neg h1 ?_
        by_cases h2 : x.f0 = 2
        · rw [if_pos h2] at a ⊢
          exact Ev.ite_pos h2 (Ev.bind (specHead 2 (x.f2.size : Int) (by omega) (by omega) (by omega) (by omega)) (Ev.ite_pos (by omega) (Ev.ite_pos (by omega) a)))
        · rw [if_neg h2] at a ⊢
          refine Ev.ite_neg h2 ?_
          by_cases h3 : x.f0 = 3
          · rw [if_pos h3] at a ⊢
            exact Ev.ite_pos h3 (Ev.bind (specHead 3 (x.f2.size : Int) (by omega) (by omega) (by omega) (by omega)) (Ev.ite_pos (by omega) (Ev.ite_pos (by omega) a)))
          · rw [if_neg h3] at a ⊢
            exact Ev.ite_neg h3 (Ev.bind (specHead 4 x.f3 (by omega) (by omega) (by omega) (by omega)) (Ev.ite_pos (by omega) a))
    · refine Ev.step (fun k => by rw [impl_itemsBytes.l0]) ?_
      refine Ev.ite_pos hp (Ev.ite_pos hz (Ev.ite_pos hp ?_))
      rw [hx] at hok ⊢
      revert hok b
      generalize l[i] = x at s1 s2 s3 s4
      intro hok b
      rw [hw]
      unfold OkItem at hok
      unfold itemText at b ⊢
      by_cases h1 : x.f0 = 1
      · rw [if_pos h1] at b ⊢
        exact Ev.ite_pos h1 (Ev.opt_bind (implHead 0 x.f1 (by omega) (by omega) (by omega) (by omega)) (Ev.ite_pos (by omega) b))
      · rw [if_neg h1] at b ⊢
        refine Ev.ite_neg h1 ?_
        by_cases h2 : x.f0 = 2
        · rw [if_pos h2] at b ⊢
          exact Ev.ite_pos h2 (Ev.opt_bind (implHead 2 (x.f2.size : Int) (by omega) (by omega) (by omega) (by omega)) (Ev.ite_pos (by omega) (Ev.ite_pos (by omega) b)))
        · rw [if_neg h2] at b ⊢
          refine Ev.ite_neg h2 ?_
          by_cases h3 : x.f0 = 3
          · rw [if_pos h3] at b ⊢
            exact Ev.ite_pos h3 (Ev.opt_bind (implHead 3 (x.f2.size : Int) (by omega) (by omega) (by omega) (by omega)) (Ev.ite_pos (by omega) (Ev.ite_pos (by omega) b)))
          · rw [if_neg h3] at b ⊢
            exact Ev.ite_neg h3 (Ev.ite_pos (by omega) (Ev.opt_bind (implHead 4 x.f3 (by omega) (by omega) (by omega) (by omega)) (Ev.ite_pos (by omega) b)))
theorem empty_append (s : ByteArray) : (⟨#[]⟩ : ByteArray) ++ s = s := by
  apply str_ext
  simp
theorem bytes_both (l : List S67) (hl : l.length ≤ 1048576) (ok : ∀ i : Nat, i < l.length → OkAt l i) : Ev (fun k => spec_l2Bytes.f k l) (itemsText l) ∧ Ev (fun k => impl_itemsBytes.f k l) (itemsText l) := by
  have := bytes_go l hl ok l.length 0 (⟨#[]⟩ : ByteArray) (by omega) (by omega) (by decide)
  simp only [List.drop_zero, empty_append] at this
  simp only [spec_l2Bytes.f, impl_itemsBytes.f]
  exact this
theorem crc_go (n : Nat) : ∀ (x : Nat) (i : Int), x < 65536 → 0 ≤ i → i ≤ 8 → 8 - i = n → Ev (fun k => spec_l1Crc.l0 k (x : Int) i) (crcRounds n x : Int) ∧ Ev (fun k => impl_crcAdd.l0 k (x : Int) i) (crcRounds n x : Int) := by
  induction n with
  | zero =>
    intro x i hx h0 h1 hn
    constructor
    · refine Ev.step (fun k => by rw [spec_l1Crc.l0]) ?_
      simp only [if_neg (show ¬ i < 8 by omega), crcRounds]
      exact Ev.now _
    · refine Ev.step (fun k => by rw [impl_crcAdd.l0]) ?_
      simp only [if_neg (show ¬ i < 8 by omega), crcRounds]
      exact Ev.now _
  | succ n ih =>
    intro x i hx h0 h1 hn
    have hw : wrap64 (i + 1) = i + 1 := w64 (by omega) (by omega)
    have hw2 : wrap64 ((x : Int) * 2) = ((2 * x : Nat) : Int) := by rw [w64 (by omega) (by omega)]; omega
    obtain ⟨a, b⟩ := ih (crcRound x) (i + 1) (crcRound_lt hx) (by omega) (by omega) (by omega)
    have e : (if ((2 * x : Nat) : Int) > 65535 then Go.bits .xor .i64 ((2 * x : Nat) : Int) 69665 else ((2 * x : Nat) : Int)) = (crcRound x : Int) := by
      unfold crcRound
      by_cases h : 65535 < 2 * x
      · rw [if_pos (by omega), if_pos h]
        exact xor_i64 (2 * x) 69665 (by omega) (by omega)
      · rw [if_neg (by omega), if_neg h]
    constructor
    · refine Ev.step (fun k => by rw [spec_l1Crc.l0]) ?_
      simp only [if_pos (show i < 8 by omega), hw, hw2]
      by_cases h : ((2 * x : Nat) : Int) > 65535
      · simp only [if_pos h] at e ⊢
        rw [e]; simpa only [crcRounds] using a
      · simp only [if_neg h] at e ⊢
        rw [e]; simpa only [crcRounds] using a
    · refine Ev.step (fun k => by rw [impl_crcAdd.l0]) ?_
      simp only [if_pos (show i < 8 by omega), hw, hw2]
      by_cases h : ((2 * x : Nat) : Int) > 65535
      · simp only [if_pos h] at e ⊢
        rw [e]; simpa only [crcRounds] using b
      · simp only [if_neg h] at e ⊢
        rw [e]; simpa only [crcRounds] using b
theorem crc_one (x b : Nat) (hx : x < 65536) (hb : b < 256) : Ev (fun k => spec_l1Crc.f k (x : Int) (b : Int)) (crcByte x b : Int) ∧ Ev (fun k => impl_crcAdd.f k (x : Int) (b : Int)) (crcByte x b : Int) := by
  have := crc_go 8 (x ^^^ (b * 256)) 0 (xor_byte_lt hx hb) (by omega) (by omega) (by omega)
  simp only [spec_l1Crc.f, impl_crcAdd.f, w64 (show -9223372036854775808 ≤ (b : Int) by omega) (show (b : Int) ≤ 9223372036854775807 by omega)]
  have e1 : wrap64 ((b : Int) * 256) = ((b * 256 : Nat) : Int) := by rw [w64 (by omega) (by omega)]; omega
  have e2 : wrap64 (256 * (b : Int)) = ((b * 256 : Nat) : Int) := by rw [w64 (by omega) (by omega)]; omega
  rw [e1, e2, xor_i64 x (b * 256) (by omega) (by omega)]
  exact this
theorem crcOf_go (s : ByteArray) (hs : s.size ≤ 4611686018427387904) (n : Nat) : ∀ (x i : Nat), x < 65536 → i ≤ s.size → s.size - i = n →
    Ev (fun k => spec_l1CrcOf.l0 k s (x : Int) (i : Int)) (crcOver x (s.data.toList.drop i) : Int) ∧ Ev (fun k => impl_crcOf.l0 k s (x : Int) (s.size : Int) (i : Int)) (crcOver x (s.data.toList.drop i) : Int) := by
  induction n with
  | zero =>
    intro x i hx h0 hn
    have e : s.data.toList.drop i = [] := List.drop_eq_nil_of_le (by rw [size_data]; omega)
    rw [e]
    constructor
    · refine Ev.step (fun k => by rw [spec_l1CrcOf.l0]) ?_
      simp only [if_neg (show ¬ (i : Int) < (s.size : Int) by omega)]
      exact Ev.now _
    · refine Ev.step (fun k => by rw [impl_crcOf.l0]) ?_
      simp only [if_neg (show ¬ (i : Int) < (s.size : Int) by omega)]
      exact Ev.now _
  | succ n ih =>
    intro x i hx h0 hn
    have hi : i < s.size := by omega
    have hw : wrap64 ((i : Int) + 1) = ((i + 1 : Nat) : Int) := by rw [w64 (by omega) (by omega)]; omega
    have hb : bt s (i : Int) = (s[i].toNat : Int) := by simp [bt, hi]
    have e : s.data.toList.drop i = s[i] :: s.data.toList.drop (i + 1) := List.drop_eq_getElem_cons (by rw [size_data]; exact hi)
    obtain ⟨p, q⟩ := crc_one x s[i].toNat hx s[i].toNat_lt
    obtain ⟨a, b⟩ := ih (crcByte x s[i].toNat) (i + 1) (crcByte_lt hx s[i].toNat_lt) (by omega) (by omega)
    rw [e]
    simp only [crcOver, List.foldl_cons] at a b ⊢
    constructor
    · refine Ev.step (fun k => by rw [spec_l1CrcOf.l0]) ?_
      simp only [if_pos (show (i : Int) < (s.size : Int) by omega), if_pos (show (0 : Int) ≤ (i : Int) by omega), hw, hb]
      exact Ev.bind p a
    · refine Ev.step (fun k => by rw [impl_crcOf.l0]) ?_
      simp only [if_pos (show (i : Int) < (s.size : Int) by omega), if_pos (show (0 : Int) ≤ (i : Int) by omega), hw, hb]
      exact Ev.bind q b
def crcText (s : ByteArray) : Nat := crcOver 65535 s.data.toList
theorem crcText_lt (s : ByteArray) : crcText s < 65536 := crcOver_lt _ (by omega)
theorem crcOf_both (s : ByteArray) (hs : s.size ≤ 4611686018427387904) : Ev (fun k => spec_l1CrcOf.f k s) (crcText s : Int) ∧ Ev (fun k => impl_crcOf.f k s) (crcText s : Int) := by
  simp only [spec_l1CrcOf.f, impl_crcOf.f]
  exact crcOf_go s hs s.size 65535 0 (by omega) (by omega) (by omega)
def withSum (s : ByteArray) : ByteArray := s ++ strOfNums [(crcText s : Int) / 256 % 256, (crcText s : Int) % 256]
theorem specWith (s : ByteArray) (hs : s.size ≤ 4611686018427387904) : Ev (fun k => spec_l1With.f k s) (withSum s) := by
  simp only [spec_l1With.f]
  refine Ev.bind (crcOf_both s hs).1 ?_
  refine Ev.some_bind ?_
  simp only [strOfNums_size]
  refine Ev.ite_pos (by simp; omega) ?_
  exact Ev.now _
theorem implWith (s : ByteArray) (hs : s.size ≤ 398) : Ev (fun k => impl_WithCrc.f k s) (withSum s, true) := by
  simp only [impl_WithCrc.f]
  refine Ev.ite_neg (by omega) ?_
  refine Ev.bind (crcOf_both s (by omega)).2 ?_
  have e : ([wrap64 (Int.tdiv (crcText s : Int) 256) % 256, Int.tmod (crcText s : Int) 256 % 256] : List Int) = [(crcText s : Int) / 256 % 256, (crcText s : Int) % 256] := by
    have h := crcText_lt s
    rw [Int.tdiv_eq_ediv_of_nonneg (by omega), Int.tmod_eq_emod_of_nonneg (by omega), w64 (by omega) (by omega), Int.emod_emod]
  rw [e]
  refine Ev.some_bind ?_
  simp only [strOfNums_size]
  refine Ev.ite_pos (by simp; omega) ?_
  exact Ev.now _
def bundleNums (a0 a1 : Int) (a2 : Bool) (a3 a4 a5 a6 a7 a8 : Int) : List Int := [a0, a1, if a2 = true then 1 else 0, a3, a4, a5, a6, a7, a8]
def bundleItems (a0 a1 : Int) (a2 : Bool) (a3 a4 a5 a6 a7 a8 : Int) (a9 : ByteArray) : List S67 :=
  (⟨4, 0, (⟨#[]⟩ : ByteArray), 10⟩ : S67) :: ((bundleNums a0 a1 a2 a3 a4 a5 a6 a7 a8).map (fun n => (⟨1, n, (⟨#[]⟩ : ByteArray), 0⟩ : S67)) ++ [(⟨2, 0, a9, 0⟩ : S67)])
theorem l3Items_go (a0 a1 : Int) (a2 : Bool) (a3 a4 a5 a6 a7 a8 : Int) (a9 : ByteArray) (ns : List Int) (hn : ns.length ≤ 9) (d : Nat) : ∀ (x : List S67) (i : Nat), i ≤ ns.length → ns.length - i = d → x.length ≤ 1 + i →
    Ev (fun k => spec_l3Items.l0 k x ns (ns.length : Int) (i : Int) a0 a1 a2 a3 a4 a5 a6 a7 a8 a9) (x ++ ((ns.drop i).map (fun n => (⟨1, n, (⟨#[]⟩ : ByteArray), 0⟩ : S67)) ++ [(⟨2, 0, a9, 0⟩ : S67)])) := by
  induction d with
  | zero =>
    intro x i h0 hd hx
    rw [List.drop_eq_nil_of_le (by omega)]
    refine Ev.step (fun k => by rw [spec_l3Items.l0]) ?_
    exact Ev.ite_neg (by omega) (Ev.ite_pos (by omega) (Ev.now _))
  | succ d ih =>
    intro x i h0 hd hx
    have hi : i < ns.length := by omega
    have hw : wrap64 ((i : Int) + 1) = ((i + 1 : Nat) : Int) := by rw [w64 (by omega) (by omega)]; omega
    have a := ih (x ++ [(⟨1, ns[i], (⟨#[]⟩ : ByteArray), 0⟩ : S67)]) (i + 1) (by omega) (by omega) (by simp; omega)
    rw [List.drop_eq_getElem_cons hi]
    refine Ev.step (fun k => by rw [spec_l3Items.l0]) ?_
    refine Ev.ite_pos (by omega) (Ev.ite_pos (by omega) (Ev.ite_pos (by omega) (Ev.ite_pos (by omega) ?_)))
    rw [hw, rd_eq ns i hi]
    rw [List.append_assoc, List.singleton_append] at a
    rw [List.map_cons, List.cons_append]
    exact a
theorem specItems (a0 a1 : Int) (a2 : Bool) (a3 a4 a5 a6 a7 a8 : Int) (a9 : ByteArray) : Ev (fun k => spec_l3Items.f k a0 a1 a2 a3 a4 a5 a6 a7 a8 a9) (bundleItems a0 a1 a2 a3 a4 a5 a6 a7 a8 a9) := by
  have go : ∀ g : Int, g = (if a2 = true then 1 else 0) → Ev (fun k => spec_l3Items.j0 k g a0 a1 a2 a3 a4 a5 a6 a7 a8 a9) (bundleItems a0 a1 a2 a3 a4 a5 a6 a7 a8 a9) := by
    intro g hg
    refine Ev.step (fun k => by rw [spec_l3Items.j0]) ?_
    refine Ev.some_bind ?_
    have := l3Items_go a0 a1 a2 a3 a4 a5 a6 a7 a8 a9 (bundleNums a0 a1 a2 a3 a4 a5 a6 a7 a8) (by simp [bundleNums]) 9 [(⟨4, 0, (⟨#[]⟩ : ByteArray), 10⟩ : S67)] 0 (by omega) (by simp [bundleNums]) (by simp)
    rw [hg]
    exact this
  simp only [spec_l3Items.f]
  refine Ev.ite (fun h => go 1 (by rw [if_pos h])) fun h => go 0 (by rw [if_neg h])
theorem bundleItems_ok {a0 a1 : Int} {a2 : Bool} {a3 a4 a5 a6 a7 a8 : Int} {a9 : ByteArray} (h : GoodP a0 a1 a3 a4 a5 a6 a7 a8 a9.size) : ∀ i : Nat, i < (bundleItems a0 a1 a2 a3 a4 a5 a6 a7 a8 a9).length → OkAt (bundleItems a0 a1 a2 a3 a4 a5 a6 a7 a8 a9) i := by
  intro i hi
  unfold OkAt
  rw [rdT_eq _ i hi]
  have num : ∀ n : Int, 0 ≤ n → n ≤ 1000000000 → OkItem 1 n (⟨#[]⟩ : ByteArray) 0 := fun n a b => .inl ⟨rfl, a, b, rfl, rfl⟩
  have : ∀ x ∈ bundleItems a0 a1 a2 a3 a4 a5 a6 a7 a8 a9, OkItem x.f0 x.f1 x.f2 x.f3 := by
    intro x hx
    unfold GoodP at h
    simp only [bundleItems, bundleNums, List.map_cons, List.map_nil, List.cons_append, List.nil_append, List.mem_cons, List.not_mem_nil, or_false] at hx
    rcases hx with rfl | rfl | rfl | rfl | rfl | rfl | rfl | rfl | rfl | rfl | rfl
    · exact .inr (.inr (.inr ⟨rfl, (by decide : (0 : Int) ≤ 10), (by decide : (10 : Int) ≤ 40), rfl, rfl⟩))
    · exact num a0 (by omega) (by omega)
    · exact num a1 (by omega) (by omega)
    · exact num (if a2 = true then 1 else 0) (by split <;> omega) (by split <;> omega)
    · exact num a3 (by omega) (by omega)
    · exact num a4 (by omega) (by omega)
    · exact num a5 (by omega) (by omega)
    · exact num a6 (by omega) (by omega)
    · exact num a7 (by omega) (by omega)
    · exact num a8 (by omega) (by omega)
    · exact .inr (.inl ⟨rfl, (by omega : a9.size ≤ 60), rfl, rfl⟩)
  exact this _ (List.getElem_mem hi)
theorem bundleText_size {a0 a1 : Int} {a2 : Bool} {a3 a4 a5 a6 a7 a8 : Int} {a9 : ByteArray} (h : a9.size ≤ 60) : (itemsText (bundleItems a0 a1 a2 a3 a4 a5 a6 a7 a8 a9)).size ≤ 398 := by
  have num : ∀ n : Int, (itemText 1 n (⟨#[]⟩ : ByteArray) 0).size ≤ 5 := fun n => by
    simp only [itemText, if_true]; exact (headText_size 0 n).2
  have pay : (itemText 2 0 a9 0).size ≤ 65 := by
    have := headText_size 2 (a9.size : Int)
    simp only [itemText, if_true, if_neg (show ¬ (2 : Int) = 1 by decide), ByteArray.size_append]
    omega
  have lst : (itemText 4 0 (⟨#[]⟩ : ByteArray) 10).size ≤ 5 := (headText_size 4 10).2
  have emp : (⟨#[]⟩ : ByteArray).size = 0 := rfl
  simp only [bundleItems, bundleNums, List.map_cons, List.map_nil, List.cons_append, List.nil_append, itemsText, ByteArray.size_append, emp]
  have n0 := num a0
  have n1 := num a1
  have n2 := num (if a2 = true then 1 else 0)
  have n3 := num a3
  have n4 := num a4
  have n5 := num a5
  have n6 := num a6
  have n7 := num a7
  have n8 := num a8
  omega
def bundleText (a0 a1 : Int) (a2 : Bool) (a3 a4 a5 a6 a7 a8 : Int) (a9 : ByteArray) : ByteArray := withSum (itemsText (bundleItems a0 a1 a2 a3 a4 a5 a6 a7 a8 a9))
theorem bundleItems_len (a0 a1 : Int) (a2 : Bool) (a3 a4 a5 a6 a7 a8 : Int) (a9 : ByteArray) : (bundleItems a0 a1 a2 a3 a4 a5 a6 a7 a8 a9).length = 11 := by simp [bundleItems, bundleNums]
theorem specBundleText {a0 a1 : Int} {a2 : Bool} {a3 a4 a5 a6 a7 a8 : Int} {a9 : ByteArray} (h : GoodP a0 a1 a3 a4 a5 a6 a7 a8 a9.size) : Ev (fun k => spec_l3Bytes.f k a0 a1 a2 a3 a4 a5 a6 a7 a8 a9) (bundleText a0 a1 a2 a3 a4 a5 a6 a7 a8 a9) := by
  have hs : a9.size ≤ 60 := by unfold GoodP at h; omega
  have hz := bundleText_size (a0 := a0) (a1 := a1) (a2 := a2) (a3 := a3) (a4 := a4) (a5 := a5) (a6 := a6) (a7 := a7) (a8 := a8) hs
  simp only [spec_l3Bytes.f]
  refine Ev.bind (specItems ..) (Ev.bind (bytes_both _ (by rw [bundleItems_len]; omega) (bundleItems_ok h)).1 ?_)
  exact Ev.bind (specWith _ (by omega)) (Ev.now _)
theorem implBundle_go (a0 a1 : Int) (a2 : Bool) (a3 a4 a5 a6 a7 a8 : Int) (a9 : ByteArray) (ns : List Int) (hn : ns.length ≤ 9) {r : ByteArray × Bool} (d : Nat) : ∀ (x : List S67) (i : Nat), i ≤ ns.length → ns.length - i = d → x.length ≤ 1 + i →
    Ev (fun k => (impl_itemsBytes.f k (x ++ ((ns.drop i).map (fun n => (⟨1, n, (⟨#[]⟩ : ByteArray), 0⟩ : S67)) ++ [(⟨2, 0, a9, 0⟩ : S67)]))).bind fun t => (impl_WithCrc.f k t).bind fun b => some (b.1, b.2)) r →
    Ev (fun k => impl_BundleBytes.l0 k x ns (ns.length : Int) (i : Int) a0 a1 a2 a3 a4 a5 a6 a7 a8 a9) r := by
  induction d with
  | zero =>
    intro x i h0 hd hx hr
    rw [List.drop_eq_nil_of_le (by omega)] at hr
    refine Ev.step (fun k => by rw [impl_BundleBytes.l0]) ?_
    exact Ev.ite_neg (by omega) (Ev.ite_pos (by omega) hr)
  | succ d ih =>
    intro x i h0 hd hx hr
    have hi : i < ns.length := by omega
    have hw : wrap64 ((i : Int) + 1) = ((i + 1 : Nat) : Int) := by rw [w64 (by omega) (by omega)]; omega
    rw [List.drop_eq_getElem_cons hi] at hr
    have a := ih (x ++ [(⟨1, ns[i], (⟨#[]⟩ : ByteArray), 0⟩ : S67)]) (i + 1) (by omega) (by omega) (by simp; omega) (by
      rw [List.map_cons, List.cons_append] at hr
      rw [List.append_assoc, List.singleton_append]
      exact hr)
    refine Ev.step (fun k => by rw [impl_BundleBytes.l0]) ?_
    refine Ev.ite_pos (by omega) (Ev.ite_pos (by omega) (Ev.ite_pos (by omega) (Ev.ite_pos (by omega) ?_)))
    rw [hw, rd_eq ns i hi]
    exact a
theorem implBundle_val (a0 a1 : Int) (a2 : Bool) (a3 a4 a5 a6 a7 a8 : Int) (a9 : ByteArray) (hb : -9223372036854775808 ≤ a8 ∧ a8 ≤ 9223372036854775807) :
    (GoodP a0 a1 a3 a4 a5 a6 a7 a8 a9.size → Ev (fun k => impl_BundleBytes.f k a0 a1 a2 a3 a4 a5 a6 a7 a8 a9) (bundleText a0 a1 a2 a3 a4 a5 a6 a7 a8 a9, true)) ∧
    (¬ GoodP a0 a1 a3 a4 a5 a6 a7 a8 a9.size → Ev (fun k => impl_BundleBytes.f k a0 a1 a2 a3 a4 a5 a6 a7 a8 a9) ((⟨#[]⟩ : ByteArray), false)) := by
  have g := implGood a0 a1 a2 a3 a4 a5 a6 a7 a8 a9 hb
  constructor
  · intro hg
    rw [decide_eq_true hg] at g
    have hs : a9.size ≤ 60 := by unfold GoodP at hg; omega
    have hz := bundleText_size (a0 := a0) (a1 := a1) (a2 := a2) (a3 := a3) (a4 := a4) (a5 := a5) (a6 := a6) (a7 := a7) (a8 := a8) hs
    have go : ∀ n : Int, n = (if a2 = true then 1 else 0) → Ev (fun k => impl_BundleBytes.j0 k n a0 a1 a2 a3 a4 a5 a6 a7 a8 a9) (bundleText a0 a1 a2 a3 a4 a5 a6 a7 a8 a9, true) := by
      intro n hn
      refine Ev.step (fun k => by rw [impl_BundleBytes.j0]) ?_
      refine Ev.some_bind ?_
      have := implBundle_go (r := (bundleText a0 a1 a2 a3 a4 a5 a6 a7 a8 a9, true)) a0 a1 a2 a3 a4 a5 a6 a7 a8 a9 (bundleNums a0 a1 a2 a3 a4 a5 a6 a7 a8) (by simp [bundleNums]) 9 [(⟨4, 0, (⟨#[]⟩ : ByteArray), 10⟩ : S67)] 0 (by omega) (by simp [bundleNums]) (by simp)
        (Ev.bind (bytes_both (bundleItems a0 a1 a2 a3 a4 a5 a6 a7 a8 a9) (by rw [bundleItems_len]; omega) (bundleItems_ok hg)).2 (Ev.bind (implWith _ hz) (Ev.now _)))
      rw [hn]
      exact this
    simp only [impl_BundleBytes.f]
    refine Ev.bind g (Ev.ite_pos rfl (Ev.ite (fun h => go 1 (by rw [if_pos h])) fun h => go 0 (by rw [if_neg h])))
  · intro hg
    rw [decide_eq_false hg] at g
    simp only [impl_BundleBytes.f]
    exact Ev.bind g (Ev.ite_neg (by simp) (Ev.now _))
theorem bundleBytes_both (a0 a1 : Int) (a2 : Bool) (a3 a4 a5 a6 a7 a8 : Int) (a9 : ByteArray) (hb : -9223372036854775808 ≤ a8 ∧ a8 ≤ 9223372036854775807) :
    ∃ r, Ev (fun k => spec_BundleBytes.f k a0 a1 a2 a3 a4 a5 a6 a7 a8 a9) r ∧ Ev (fun k => impl_BundleBytes.f k a0 a1 a2 a3 a4 a5 a6 a7 a8 a9) r ∧
      (GoodP a0 a1 a3 a4 a5 a6 a7 a8 a9.size → r = (bundleText a0 a1 a2 a3 a4 a5 a6 a7 a8 a9, true)) ∧ (¬ GoodP a0 a1 a3 a4 a5 a6 a7 a8 a9.size → r = ((⟨#[]⟩ : ByteArray), false)) := by
  have g := implGood a0 a1 a2 a3 a4 a5 a6 a7 a8 a9 hb
  by_cases hg : GoodP a0 a1 a3 a4 a5 a6 a7 a8 a9.size
  · rw [decide_eq_true hg] at g
    have hs : a9.size ≤ 60 := by unfold GoodP at hg; omega
    have hz := bundleText_size (a0 := a0) (a1 := a1) (a2 := a2) (a3 := a3) (a4 := a4) (a5 := a5) (a6 := a6) (a7 := a7) (a8 := a8) hs
    refine ⟨(bundleText a0 a1 a2 a3 a4 a5 a6 a7 a8 a9, true), ?_, ?_, fun _ => rfl, fun h => absurd hg h⟩
    · simp only [spec_BundleBytes.f, specGood, decide_eq_true hg, Option.bind_some, if_true]
      exact Ev.bind (specBundleText hg) (Ev.now _)
    · have go : ∀ n : Int, n = (if a2 = true then 1 else 0) → Ev (fun k => impl_BundleBytes.j0 k n a0 a1 a2 a3 a4 a5 a6 a7 a8 a9) (bundleText a0 a1 a2 a3 a4 a5 a6 a7 a8 a9, true) := by
        intro n hn
        refine Ev.step (fun k => by rw [impl_BundleBytes.j0]) ?_
        refine Ev.some_bind ?_
        have := implBundle_go (r := (bundleText a0 a1 a2 a3 a4 a5 a6 a7 a8 a9, true)) a0 a1 a2 a3 a4 a5 a6 a7 a8 a9 (bundleNums a0 a1 a2 a3 a4 a5 a6 a7 a8) (by simp [bundleNums]) 9 [(⟨4, 0, (⟨#[]⟩ : ByteArray), 10⟩ : S67)] 0 (by omega) (by simp [bundleNums]) (by simp)
          (Ev.bind (bytes_both (bundleItems a0 a1 a2 a3 a4 a5 a6 a7 a8 a9) (by rw [bundleItems_len]; omega) (bundleItems_ok hg)).2 (Ev.bind (implWith _ hz) (Ev.now _)))
        rw [hn]
        exact this
      simp only [impl_BundleBytes.f]
      refine Ev.bind g (Ev.ite_pos rfl (Ev.ite (fun h => go 1 (by rw [if_pos h])) fun h => go 0 (by rw [if_neg h])))
  · rw [decide_eq_false hg] at g
    refine ⟨_, ?_, ?_, fun h => absurd h hg, fun _ => rfl⟩
    · simp only [spec_BundleBytes.f, specGood, decide_eq_false hg, Option.bind_some]
      exact Ev.ite_neg (by simp) (Ev.now _)
    · simp only [impl_BundleBytes.f]
      exact Ev.bind g (Ev.ite_neg (by simp) (Ev.now _))
theorem specValue (a : Int) : spec_l1Value.f a = some (decide (0 ≤ a ∧ a ≤ 1000000000)) := by
  simp [spec_l1Value.f, specIn]
theorem implValue (a : Int) : impl_isValue.f a = some (decide (0 ≤ a ∧ a ≤ 1000000000)) := by
  simp [impl_isValue.f, implWithin]
def manyOf (t : Nat) : Nat := if t = 24 then 1 else if t = 25 then 2 else if t = 26 then 4 else 0
def byteAt (s : ByteArray) (p : Nat) : Nat := (bt s (p : Int)).toNat
theorem byteAt_eq (s : ByteArray) (p : Nat) : bt s (p : Int) = (byteAt s p : Int) := by
  have := bt_range s (p : Int)
  unfold byteAt
  omega
theorem byteAt_lt (s : ByteArray) (p : Nat) : byteAt s p < 256 := by
  have := bt_range s (p : Int)
  unfold byteAt
  omega
def numAt (s : ByteArray) (p : Nat) : Nat → Nat
  | 0 => 0
  | j + 1 => 256 * numAt s p j + byteAt s (p + j)
theorem numAt_lt (s : ByteArray) (p : Nat) : ∀ j, numAt s p j < 256 ^ j
  | 0 => by simp [numAt]
  | j + 1 => by
    have h := numAt_lt s p j
    have := byteAt_lt s (p + j)
    have e : 256 ^ (j + 1) = 256 * 256 ^ j := by rw [Nat.pow_succ, Nat.mul_comm]
    rw [numAt, e]
    omega
theorem numAt_succ (s : ByteArray) (p j : Nat) : numAt s p (j + 1) = 256 * numAt s p j + byteAt s (p + j) := rfl
theorem numAt_zero (s : ByteArray) (p : Nat) : numAt s p 0 = 0 := rfl
attribute [local irreducible] numAt byteAt
theorem numAt_small (s : ByteArray) (p j : Nat) (h : j ≤ 4) : numAt s p j < 4294967296 :=
  Nat.lt_of_lt_of_le (numAt_lt s p j) (show 256 ^ j ≤ 256 ^ 4 from Nat.pow_le_pow_right (by decide) h)
theorem manyOf_le (t : Nat) : manyOf t ≤ 4 := by
  unfold manyOf
  split
  · omega
  · split
    · omega
    · split <;> omega
theorem w64_succ {x : Nat} (h : x ≤ 4611686018427387904) : wrap64 ((x : Int) + 1) = ((x + 1 : Nat) : Int) := by
  rw [w64 (by omega) (by omega)]
  omega
theorem w64_nat {x : Nat} (h : x ≤ 4611686018427387904) : wrap64 (x : Int) = (x : Int) := w64 (by omega) (by omega)
theorem w64_add {x y : Nat} (h : x + y ≤ 4611686018427387904) : wrap64 ((x : Int) + (y : Int)) = ((x + y : Nat) : Int) := by
  rw [w64 (by omega) (by omega)]
  omega
theorem byte_parts {b : Nat} (h : b < 256) : wrap64 (b : Int) = (b : Int) ∧ Int.tmod (b : Int) 32 = ((b % 32 : Nat) : Int) ∧ wrap64 (Int.tdiv (b : Int) 32) = ((b / 32 : Nat) : Int) := by
  refine ⟨w64_nat (by omega), ?_, ?_⟩
  · rw [Int.tmod_eq_emod_of_nonneg (by omega)]; omega
  · rw [Int.tdiv_eq_ediv_of_nonneg (by omega), w64 (by omega) (by omega)]; omega
theorem wrap_join {x b : Nat} (hx : x < 4294967296) (hb : b < 256) : wrap64 (wrap64 (256 * (x : Int)) + wrap64 (b : Int)) = ((256 * x + b : Nat) : Int) := by
  rw [w64 (x := 256 * (x : Int)) (by omega) (by omega), w64 (x := (b : Int)) (by omega) (by omega), w64 (by omega) (by omega)]
  omega
theorem or_low8_i64 {x y : Int} (h0 : 0 ≤ x) (h1 : x < 9223372036854775807) (hx : x % 256 = 0) (hy0 : 0 ≤ y) (hy1 : y < 256) : Go.bits .or .i64 x y = x + y :=
  bits_join .i64 63 (by decide) i64_wraps 8 x y h0 (by simpa using hx) (by omega) hy0 (by simpa using hy1) (by omega)
theorem or_join {x b : Nat} (hx : x < 4294967296) (hb : b < 256) : Go.bits .or .i64 (wrap64 ((x : Int) * 256)) (wrap64 (b : Int)) = ((256 * x + b : Nat) : Int) := by
  rw [w64 (x := (b : Int)) (by omega) (by omega), w64 (by omega) (by omega), or_low8_i64 (by omega) (by omega) (by omega) (by omega) (by omega)]
  omega
def headEnd (s : ByteArray) (a m n e : Nat) : Int × Int × Int × Bool :=
  if n ≤ 1000000000 ∧ (headText m n).toList = (s.extract a e).toList then ((m : Int), (n : Int), (e : Int), true) else (0, 0, 0, false)
def headAt (s : ByteArray) (a : Nat) : Int × Int × Int × Bool :=
  if byteAt s a % 32 > 26 ∨ a + 1 + manyOf (byteAt s a % 32) > s.size then (0, 0, 0, false)
  else headEnd s a (byteAt s a / 32) (if manyOf (byteAt s a % 32) = 0 then byteAt s a % 32 else numAt s (a + 1) (manyOf (byteAt s a % 32))) (a + 1 + manyOf (byteAt s a % 32))
theorem bt_extract (s : ByteArray) (p q j : Nat) (hq : q ≤ s.size) (hj : p + j < q) : bt (s.extract p q) (j : Int) = bt s ((p + j : Nat) : Int) := by
  have h1 : (s.extract p q).size = q - p := by rw [ByteArray.size_extract]; omega
  unfold bt
  rw [dif_pos (show ((j : Nat) : Int).toNat < (s.extract p q).size by rw [h1]; omega), dif_pos (show ((p + j : Nat) : Int).toNat < s.size by omega)]
  congr 1
  simp only [Int.toNat_natCast]
  rw [ByteArray.getElem_extract]
theorem implHeadEnd {s : ByteArray} (hs : s.size ≤ 1099511627776) (a m n e : Nat) (hm : m ≤ 7) (hn : n < 4294967296) (ha : a ≤ e) (he : e ≤ s.size) :
    (impl_isValue.f (n : Int)).bind (fun t137 => (if t137 = true then ((impl_head.f (m : Int) (n : Int)).bind fun t138 => (if 0 ≤ (a : Int) then (if (a : Int) ≤ (e : Int) then (if (e : Int) ≤ (s.size : Int) then (if t138.toList = (s.extract ((a : Int)).toNat ((e : Int)).toNat).toList then (some ((m : Int), (n : Int), (e : Int), true)) else (some (0, 0, 0, false))) else (none)) else (none)) else (none))) else (some (0, 0, 0, false)))) = some (headEnd s a m n e) := by
  have h1 : (0 : Int) ≤ (a : Int) := by omega
  have h2 : (a : Int) ≤ (e : Int) := by omega
  have h3 : (e : Int) ≤ (s.size : Int) := by omega
  rw [implValue, Option.bind_some]
  unfold headEnd
  by_cases hv : n ≤ 1000000000
  · have hv' : (0 : Int) ≤ (n : Int) ∧ (n : Int) ≤ 1000000000 := by omega
    rw [decide_eq_true hv', if_pos rfl, implHead _ _ (by omega) (by omega) (by omega) (by omega), Option.bind_some, if_pos h1, if_pos h2, if_pos h3, Int.toNat_natCast, Int.toNat_natCast]
    by_cases hx : (headText (m : Int) (n : Int)).toList = (s.extract a e).toList
    · rw [if_pos hx, if_pos ⟨hv, hx⟩]
    · rw [if_neg hx, if_neg (fun h => hx h.2)]
  · have hv' : ¬ ((0 : Int) ≤ (n : Int) ∧ (n : Int) ≤ 1000000000) := by omega
    rw [decide_eq_false hv', if_neg (by decide), if_neg (fun h => hv h.1)]
theorem implTakeHead_go {s : ByteArray} (hs : s.size ≤ 1099511627776) (a m many : Nat) (hm : m ≤ 7) (h4 : many ≤ 4) (he : a + 1 + many ≤ s.size) (n0 : Nat) (hn0 : many = 0 ∧ n0 < 32 ∨ 0 < many ∧ n0 = numAt s (a + 1) many) (d : Nat) : ∀ (j x : Nat), j ≤ many → many - j = d → (0 < many → x = numAt s (a + 1) j) → (many = 0 → x = n0) →
    Ev (fun k => impl_takeHead.l0 k s ((a + 1 + j : Nat) : Int) (m : Int) (x : Int) (a : Int) (many : Int) (j : Int)) (headEnd s a m n0 (a + 1 + many)) := by
  induction d with
  | zero =>
    intro j x h1 h2 h3 h5
    obtain rfl : j = many := by omega
    have hx : x = n0 := by
      rcases hn0 with h | h
      · exact h5 h.1
      · rw [h3 h.1, h.2]
    subst hx
    have hlt : x < 4294967296 := by
      rcases hn0 with h | h
      · omega
      · rw [h.2]; exact numAt_small _ _ _ h4
    refine Ev.step (fun k => by rw [impl_takeHead.l0]) ?_
    refine Ev.ite_neg (by omega) ?_
    rw [implHeadEnd hs a m x (a + 1 + j) hm hlt (by omega) he]
    exact Ev.now _
  | succ d ih =>
    intro j x h1 h2 h3 h5
    have hx := h3 (by omega)
    have hb := byteAt_lt s (a + 1 + j)
    have hsm := numAt_small s (a + 1) j (by omega)
    rw [← hx] at hsm
    have hnx : numAt s (a + 1) (j + 1) = 256 * x + byteAt s (a + 1 + j) := by rw [numAt_succ, hx]
    have g1 : (j : Int) < (many : Int) := by omega
    have g2 : (0 : Int) ≤ ((a + 1 + j : Nat) : Int) := by omega
    have g3 : ((a + 1 + j : Nat) : Int) < (s.size : Int) := by omega
    have next := ih (j + 1) (numAt s (a + 1) (j + 1)) (by omega) (by omega) (fun _ => rfl) (fun h => by omega)
    have e1 : wrap64 (((a + 1 + j : Nat) : Int) + 1) = ((a + 1 + (j + 1) : Nat) : Int) := w64_succ (by omega)
    have e2 : wrap64 ((j : Int) + 1) = ((j + 1 : Nat) : Int) := w64_succ (by omega)
    have e3 : wrap64 (wrap64 (256 * (x : Int)) + wrap64 (byteAt s (a + 1 + j) : Int)) = ((numAt s (a + 1) (j + 1) : Nat) : Int) := by
      rw [hnx]
      exact wrap_join hsm hb
    refine Ev.step (fun k => by rw [impl_takeHead.l0]) ?_
    refine Ev.ite_pos g1 (Ev.ite_pos g2 (Ev.ite_pos g3 ?_))
    rw [byteAt_eq, e1, e2, e3]
    exact next
theorem headAt_out {s : ByteArray} {a many : Nat} (hm : manyOf (byteAt s a % 32) = many) (h : byteAt s a % 32 > 26 ∨ a + 1 + many > s.size) : headAt s a = (0, 0, 0, false) := by
  subst hm
  unfold headAt
  exact if_pos h
theorem headAt_short {s : ByteArray} {a : Nat} (hm : manyOf (byteAt s a % 32) = 0) (h : ¬ (byteAt s a % 32 > 26)) (h2 : a + 1 ≤ s.size) : headAt s a = headEnd s a (byteAt s a / 32) (byteAt s a % 32) (a + 1 + 0) := by
  unfold headAt
  rw [hm, if_neg (show ¬ (byteAt s a % 32 > 26 ∨ a + 1 + 0 > s.size) from fun h3 => h3.elim h (by omega))]
  rfl
theorem headAt_long {s : ByteArray} {a many : Nat} (hm : manyOf (byteAt s a % 32) = many) (h0 : 0 < many) (h : ¬ (byteAt s a % 32 > 26)) (h2 : a + 1 + many ≤ s.size) : headAt s a = headEnd s a (byteAt s a / 32) (numAt s (a + 1) many) (a + 1 + many) := by
  unfold headAt
  rw [hm, if_neg (show ¬ (byteAt s a % 32 > 26 ∨ a + 1 + many > s.size) from fun h3 => h3.elim h (by omega)), if_neg (show ¬ many = 0 by omega)]
theorem headEnd_wide {s : ByteArray} {a m n : Nat} (h0 : 26 < n) (h1 : n < 32) (ha : a + 1 ≤ s.size) : headEnd s a m n (a + 1 + 0) = (0, 0, 0, false) := by
  unfold headEnd
  refine if_neg fun h => ?_
  have hl := congrArg List.length h.2
  unfold headText at hl
  rw [strOfNums_toList, List.length_map, ByteArray.toList_eq] at hl
  unfold headNums at hl
  rw [if_neg (by omega), if_pos (by omega)] at hl
  have h9 : (s.extract a (a + 1 + 0)).size = 1 := by rw [ByteArray.size_extract]; omega
  have h10 : (s.extract a (a + 1 + 0)).data.toList.length = 1 := h9
  rw [h10] at hl
  simp at hl
theorem implTakeHead_tail {s : ByteArray} (hs : s.size ≤ 1099511627776) (a : Nat) (ha : a < s.size) (x many : Nat) (hmany : manyOf (byteAt s a % 32) = many) (h0 : 0 < many → x = 0) (h1 : many = 0 → x = byteAt s a % 32) :
    Ev (fun k => impl_takeHead.j0 k s (a : Int) ((byteAt s a / 32 : Nat) : Int) (x : Int) (many : Int)) (headAt s a) := by
  have hb := byteAt_lt s a
  have h4 : many ≤ 4 := by rw [← hmany]; exact manyOf_le _
  have hm7 : byteAt s a / 32 ≤ 7 := by omega
  have ht32 : byteAt s a % 32 < 32 := by omega
  have go : ∀ n0, a + 1 + many ≤ s.size → (many = 0 ∧ n0 < 32 ∨ 0 < many ∧ n0 = numAt s (a + 1) many) → (many = 0 → x = n0) → Ev (fun k => impl_takeHead.l0 k s ((a + 1 : Nat) : Int) ((byteAt s a / 32 : Nat) : Int) (x : Int) (a : Int) (many : Int) 0) (headEnd s a (byteAt s a / 32) n0 (a + 1 + many)) := fun n0 hc hn0 hx0 =>
    implTakeHead_go hs a (byteAt s a / 32) many hm7 h4 hc n0 hn0 many 0 x (Nat.zero_le _) (Nat.sub_zero _) (fun h => by rw [h0 h, numAt_zero]) hx0
  have e1 : wrap64 ((a : Int) + 1) = ((a + 1 : Nat) : Int) := w64_succ (by omega)
  have e0 : wrap64 (((a + 1 : Nat) : Int) - 1) = (a : Int) := by rw [w64 (by omega) (by omega)]; omega
  have e2 : wrap64 ((s.size : Int) - ((a + 1 : Nat) : Int)) = (s.size : Int) - (a + 1 : Nat) := w64 (by omega) (by omega)
  refine Ev.step (fun k => by rw [impl_takeHead.j0]) ?_
  rw [e1, e0, e2]
  clear e1 e0 e2
  by_cases hc : a + 1 + many ≤ s.size
  · refine Ev.ite_neg (by omega) ?_
    by_cases hm0 : many = 0
    · subst hm0
      have h5 := go (byteAt s a % 32) hc (.inl ⟨rfl, ht32⟩) h1
      by_cases ht : byteAt s a % 32 > 26
      · rw [headAt_out hmany (.inl ht)]
        rw [headEnd_wide ht ht32 (by omega)] at h5
        exact h5
      · rw [headAt_short hmany ht (by omega)]
        exact h5
    · have ht : ¬ (byteAt s a % 32 > 26) := fun ht => hm0 (by rw [← hmany]; unfold manyOf; rw [if_neg (by omega), if_neg (by omega), if_neg (by omega)])
      rw [headAt_long hmany (by omega) ht hc]
      exact go _ hc (.inr ⟨by omega, rfl⟩) (fun h => absurd h hm0)
  · rw [headAt_out hmany (.inr (by omega))]
    exact Ev.ite_pos (by omega) (Ev.now _)
theorem shl1 : shl .i64 1 0 = 1 ∧ shl .i64 1 1 = 2 ∧ shl .i64 1 2 = 4 := by decide
theorem implTakeHead {s : ByteArray} (hs : s.size ≤ 1099511627776) (a : Nat) (ha : a < s.size) : Ev (fun k => impl_takeHead.f k s (a : Int)) (headAt s a) := by
  have tail := implTakeHead_tail hs a ha
  obtain ⟨eb, em, ed⟩ := byte_parts (byteAt_lt s a)
  have ew : wrap64 ((s.size : Int) - 1) = (s.size : Int) - 1 := w64 (by omega) (by omega)
  have hin : (0 ≤ (a : Int) ∧ (a : Int) ≤ (s.size : Int) - 1) := by omega
  have w0 : wrap64 (((24 : Nat) : Int) - 24) = 0 := by rw [w64 (by omega) (by omega)]; rfl
  have w1 : wrap64 (((25 : Nat) : Int) - 24) = 1 := by rw [w64 (by omega) (by omega)]; rfl
  have w2 : wrap64 (((26 : Nat) : Int) - 24) = 2 := by rw [w64 (by omega) (by omega)]; rfl
  simp only [impl_takeHead.f, ew, implWithin, Option.bind_some, hin, and_self, decide_true, if_true, if_pos (show (0 : Int) ≤ (a : Int) by omega), if_pos (show (a : Int) < (s.size : Int) by omega), byteAt_eq, eb, em, ed]
  clear eb em ed ew
  generalize byteAt s a % 32 = t at tail ⊢
  by_cases h24 : t = 24
  · subst h24
    rw [w0, shl1.1]
    exact Ev.ite_pos rfl (Ev.ite_pos (by decide) (tail 0 1 rfl (fun _ => rfl) (fun h => by omega)))
  · refine Ev.ite_neg (by omega) ?_
    by_cases h25 : t = 25
    · subst h25
      rw [w1, shl1.2.1]
      exact Ev.ite_pos rfl (Ev.ite_pos (by decide) (tail 0 2 rfl (fun _ => rfl) (fun h => by omega)))
    · refine Ev.ite_neg (by omega) ?_
      by_cases h26 : t = 26
      · subst h26
        rw [w2, shl1.2.2]
        exact Ev.ite_pos rfl (Ev.ite_pos (by decide) (tail 0 4 rfl (fun _ => rfl) (fun h => by omega)))
      · refine Ev.ite_neg (by omega) ?_
        exact tail t 0 (by unfold manyOf; rw [if_neg h24, if_neg h25, if_neg h26]) (fun h => by omega) (fun _ => rfl)
theorem specHeadEnd {s : ByteArray} (hs : s.size ≤ 1099511627776) (a m n many : Nat) (hm : m ≤ 7) (hn : n < 4294967296) (h4 : many ≤ 4) (he : a + 1 + many ≤ s.size) :
    Ev (fun k => spec_l2TakeHead.j3 k s (a : Int) (m : Int) (n : Int) (many : Int)) (headEnd s a m n (a + 1 + many)) := by
  have e1 : wrap64 (wrap64 ((a : Int) + 1) + (many : Int)) = ((a + 1 + many : Nat) : Int) := by rw [w64_succ (by omega), w64_add (by omega)]
  refine Ev.step (fun k => by rw [spec_l2TakeHead.j3]) ?_
  rw [specValue, e1]
  clear e1
  simp only [Option.bind_some]
  unfold headEnd
  by_cases hv : n ≤ 1000000000
  · have hv' : (0 : Int) ≤ (n : Int) ∧ (n : Int) ≤ 1000000000 := by omega
    rw [decide_eq_true hv']
    refine Ev.ite_pos rfl (Ev.bind (specHead _ _ (by omega) (by omega) (by omega) (by omega)) (Ev.ite_pos (by omega) (Ev.ite_pos (by omega) (Ev.ite_pos (by omega) ?_))))
    rw [Int.toNat_natCast, Int.toNat_natCast]
    by_cases hx : (headText (m : Int) (n : Int)).toList = (s.extract a (a + 1 + many)).toList
    · rw [if_pos (show n ≤ 1000000000 ∧ (headText (m : Int) (n : Int)).toList = (s.extract a (a + 1 + many)).toList from ⟨hv, hx⟩)]
      exact Ev.ite_pos hx (Ev.now _)
    · rw [if_neg (show ¬ (n ≤ 1000000000 ∧ (headText (m : Int) (n : Int)).toList = (s.extract a (a + 1 + many)).toList) from fun h => hx h.2)]
      exact Ev.ite_neg hx (Ev.now _)
  · have hv' : ¬ ((0 : Int) ≤ (n : Int) ∧ (n : Int) ≤ 1000000000) := by omega
    rw [decide_eq_false hv', if_neg (show ¬ (n ≤ 1000000000 ∧ (headText (m : Int) (n : Int)).toList = (s.extract a (a + 1 + many)).toList) from fun h => hv h.1)]
    exact Ev.ite_neg (by decide) (Ev.now _)
theorem specTakeHead_go {s : ByteArray} (hs : s.size ≤ 1099511627776) (a m many : Nat) (hm : m ≤ 7) (h4 : many ≤ 4) (he : a + 1 + many ≤ s.size) (d : Nat) : ∀ (j : Nat), j ≤ many → many - j = d →
    Ev (fun k => spec_l2TakeHead.l0 k s (a : Int) (m : Int) ((numAt s (a + 1) j : Nat) : Int) (many : Int) (bytesOf (s.extract (a + 1) (a + 1 + many))) (many : Int) (j : Int)) (headEnd s a m (numAt s (a + 1) many) (a + 1 + many)) := by
  have hl : (bytesOf (s.extract (a + 1) (a + 1 + many))).length = many := by rw [bytesOf_length, ByteArray.size_extract]; omega
  induction d with
  | zero =>
    intro j h1 h2
    obtain rfl : j = many := by omega
    refine Ev.step (fun k => by rw [spec_l2TakeHead.l0]) ?_
    refine Ev.ite_neg (by omega) ?_
    exact specHeadEnd hs a m _ j hm (numAt_small _ _ _ h4) h4 he
  | succ d ih =>
    intro j h1 h2
    have hb := byteAt_lt s (a + 1 + j)
    have hsm := numAt_small s (a + 1) j (by omega)
    have hj : a + 1 + j < a + 1 + many := by omega
    have g1 : (j : Int) < (many : Int) := by omega
    have g2 : (0 : Int) ≤ (j : Int) := by omega
    have next := ih (j + 1) (by omega) (by omega)
    have g3 : (j : Int) < ((bytesOf (s.extract (a + 1) (a + 1 + many))).length : Int) := by rw [hl]; exact g1
    have e2 : wrap64 ((j : Int) + 1) = ((j + 1 : Nat) : Int) := w64_succ (by omega)
    have e3 : Go.bits .or .i64 (wrap64 (((numAt s (a + 1) j : Nat) : Int) * 256)) (wrap64 (rd (bytesOf (s.extract (a + 1) (a + 1 + many))) (j : Int))) = ((numAt s (a + 1) (j + 1) : Nat) : Int) := by
      rw [rd_bytesOf, bt_extract s (a + 1) (a + 1 + many) j he hj, byteAt_eq, numAt_succ]
      exact or_join hsm hb
    refine Ev.step (fun k => by rw [spec_l2TakeHead.l0]) ?_
    refine Ev.ite_pos g1 (Ev.ite_pos g2 (Ev.ite_pos g3 ?_))
    rw [e3, e2]
    exact next
theorem specTakeHead_out {s : ByteArray} (a m n many : Int) : Ev (fun k => spec_l2TakeHead.j1 k s a m n many true) (0, 0, 0, false) := by
  refine Ev.step (fun k => by rw [spec_l2TakeHead.j1]) ?_
  exact Ev.ite_pos rfl (Ev.now _)
theorem specTakeHead_tail {s : ByteArray} (hs : s.size ≤ 1099511627776) (a : Nat) (ha : a < s.size) (many : Nat) (hmany : manyOf (byteAt s a % 32) = many) :
    Ev (fun k => spec_l2TakeHead.j0 k s (a : Int) ((byteAt s a / 32 : Nat) : Int) ((byteAt s a % 32 : Nat) : Int) (many : Int)) (headAt s a) := by
  have hb := byteAt_lt s a
  have h4 : many ≤ 4 := by rw [← hmany]; exact manyOf_le _
  have hm7 : byteAt s a / 32 ≤ 7 := by omega
  have ht32 : byteAt s a % 32 < 4294967296 := by omega
  have e1 : wrap64 ((a : Int) + 1) = ((a + 1 : Nat) : Int) := w64_succ (by omega)
  have e3 : wrap64 (((a + 1 : Nat) : Int) + (many : Int)) = ((a + 1 + many : Nat) : Int) := w64_add (by omega)
  refine Ev.step (fun k => by rw [spec_l2TakeHead.j0]) ?_
  by_cases ht : byteAt s a % 32 > 26
  · rw [headAt_out hmany (.inl ht)]
    exact Ev.ite_pos (by omega) (specTakeHead_out _ _ _ _)
  · refine Ev.ite_neg (by omega) ?_
    rw [e1, e3]
    by_cases hc : a + 1 + many ≤ s.size
    · have c1 : ¬ ((a + 1 + many : Nat) : Int) > (s.size : Int) := by omega
      rw [decide_eq_false c1]
      refine Ev.step (fun k => by rw [spec_l2TakeHead.j1]) ?_
      refine Ev.ite_neg (by decide) ?_
      by_cases hm0 : many = 0
      · subst hm0
        rw [headAt_short hmany ht (by omega)]
        exact Ev.ite_neg (by decide) (specHeadEnd hs a _ _ 0 hm7 ht32 h4 hc)
      · rw [headAt_long hmany (by omega) ht hc, e1, e3]
        have c2 : (many : Int) > 0 := by omega
        have c3 : (0 : Int) ≤ ((a + 1 : Nat) : Int) := by omega
        have c4 : ((a + 1 : Nat) : Int) ≤ ((a + 1 + many : Nat) : Int) := by omega
        have c5 : ((a + 1 + many : Nat) : Int) ≤ (s.size : Int) := by omega
        have c6 : (s.extract (a + 1) (a + 1 + many)).size ≤ 9223372036854775807 := by rw [ByteArray.size_extract]; omega
        have hl : (bytesOf (s.extract (a + 1) (a + 1 + many))).length = many := by rw [bytesOf_length, ByteArray.size_extract]; omega
        refine Ev.ite_pos c2 (Ev.ite_pos c3 (Ev.ite_pos c4 (Ev.ite_pos c5 ?_)))
        rw [Int.toNat_natCast, Int.toNat_natCast]
        refine Ev.ite_pos c6 ?_
        simp only [Option.bind_some]
        rw [hl]
        have := specTakeHead_go hs a _ many hm7 h4 hc many 0 (Nat.zero_le _) (Nat.sub_zero _)
        rw [numAt_zero] at this
        exact this
    · have c1 : ((a + 1 + many : Nat) : Int) > (s.size : Int) := by omega
      rw [headAt_out hmany (.inr (by omega)), decide_eq_true c1]
      exact specTakeHead_out _ _ _ _
theorem specTakeHead {s : ByteArray} (hs : s.size ≤ 1099511627776) (a : Nat) (ha : a < s.size) : Ev (fun k => spec_l2TakeHead.f k s (a : Int)) (headAt s a) := by
  have tail := specTakeHead_tail hs a ha
  obtain ⟨eb, em, ed⟩ := byte_parts (byteAt_lt s a)
  simp only [spec_l2TakeHead.f, if_neg (show ¬ (a : Int) ≥ (s.size : Int) by omega), if_pos (show (0 : Int) ≤ (a : Int) by omega), if_pos (show (a : Int) < (s.size : Int) by omega), byteAt_eq, eb, em, ed]
  clear eb em ed
  generalize byteAt s a % 32 = t at tail ⊢
  by_cases h24 : t = 24
  · subst h24
    exact Ev.ite_pos rfl (tail 1 rfl)
  · refine Ev.ite_neg (by omega) ?_
    by_cases h25 : t = 25
    · subst h25
      exact Ev.ite_pos rfl (tail 2 rfl)
    · refine Ev.ite_neg (by omega) ?_
      by_cases h26 : t = 26
      · subst h26
        exact Ev.ite_pos rfl (tail 4 rfl)
      · refine Ev.ite_neg (by omega) ?_
        exact tail 0 (by unfold manyOf; rw [if_neg h24, if_neg h25, if_neg h26])
theorem bt_nums (l : List Int) (j : Nat) (h : j < l.length) (h0 : 0 ≤ l[j]) (h1 : l[j] ≤ 255) : bt (strOfNums l) (j : Int) = l[j] := by
  have hs : j < (strOfNums l).size := by rw [strOfNums_size]; exact h
  have e : (strOfNums l).data.toList = l.map fun n => UInt8.ofNat n.toNat := by rw [← ByteArray.toList_eq, strOfNums_toList]
  have g : (strOfNums l)[j] = UInt8.ofNat l[j].toNat := by
    have q : (strOfNums l).data.toList[j]'(by rw [e]; simpa using h) = UInt8.ofNat l[j].toNat := by
      rw [List.getElem_of_eq e, List.getElem_map]
    rw [← q]
    rfl
  unfold bt
  rw [dif_pos (show ((j : Nat) : Int).toNat < (strOfNums l).size from hs)]
  simp only [Int.toNat_natCast]
  rw [g, UInt8.toNat_ofNat']
  omega
theorem byteAt_nums (s : ByteArray) (a : Nat) (l : List Int) (hs : a + l.length ≤ s.size) (hx : s.extract a (a + l.length) = strOfNums l) (j : Nat) (h : j < l.length) (h0 : 0 ≤ l[j]) (h1 : l[j] ≤ 255) : (byteAt s (a + j) : Int) = l[j] := by
  rw [← byteAt_eq, ← bt_extract s a (a + l.length) j hs (by omega), hx]
  exact bt_nums l j h h0 h1
theorem headAt_text (s : ByteArray) (a m n : Nat) (hm : m ≤ 7) (hn : n ≤ 1000000000) (hs : a + (headText m n).size ≤ s.size) (hx : s.extract a (a + (headText m n).size) = headText m n) :
    headAt s a = ((m : Int), (n : Int), ((a + (headText m n).size : Nat) : Int), true) := by
  have hl : (headText (m : Int) (n : Int)).size = (headNums m n).length := by unfold headText; rw [strOfNums_size]
  have hfin : ∀ e : Nat, e = a + (headText (m : Int) (n : Int)).size → headEnd s a m n e = ((m : Int), (n : Int), ((a + (headText m n).size : Nat) : Int), true) := fun e he => by
    subst he
    unfold headEnd
    rw [if_pos ⟨hn, by rw [hx]⟩]
  rw [hl] at hs hx hfin
  have hx' : s.extract a (a + (headNums (m : Int) (n : Int)).length) = strOfNums (headNums m n) := hx
  have at_ := fun j h h0 h1 => byteAt_nums s a (headNums (m : Int) (n : Int)) hs hx' j h h0 h1
  clear hx hx'
  rw [hl]
  unfold headNums at at_ hs hfin ⊢
  by_cases c1 : (n : Int) < 24
  · simp only [if_pos c1, List.length_cons, List.length_nil] at at_ hs hfin ⊢
    have b0 : (byteAt s a : Int) = (32 * (m : Int) + (n : Int)) % 256 := at_ 0 (by omega) (show 0 ≤ (32 * (m : Int) + (n : Int)) % 256 by omega) (show (32 * (m : Int) + (n : Int)) % 256 ≤ 255 by omega)
    have e0 : byteAt s a = 32 * m + n := by omega
    have e1 : byteAt s a % 32 = n := by omega
    have e2 : byteAt s a / 32 = m := by omega
    have e3 : manyOf n = 0 := by unfold manyOf; rw [if_neg (by omega), if_neg (by omega), if_neg (by omega)]
    unfold headAt
    rw [e1, e2, e3, if_neg (by omega), if_pos rfl]
    exact hfin _ (by omega)
  · rw [if_neg c1] at at_ hs hfin ⊢
    by_cases c2 : (n : Int) < 256
    · simp only [if_pos c2, List.length_cons, List.length_nil] at at_ hs hfin ⊢
      have b0 : (byteAt s a : Int) = (32 * (m : Int) + 24) % 256 := at_ 0 (by omega) (show 0 ≤ (32 * (m : Int) + 24) % 256 by omega) (show (32 * (m : Int) + 24) % 256 ≤ 255 by omega)
      have b1 : (byteAt s (a + 1) : Int) = (n : Int) % 256 := at_ 1 (by omega) (show 0 ≤ (n : Int) % 256 by omega) (show (n : Int) % 256 ≤ 255 by omega)
      have e1 : byteAt s a % 32 = 24 := by omega
      have e2 : byteAt s a / 32 = m := by omega
      have e3 : manyOf 24 = 1 := rfl
      have e4 : numAt s (a + 1) 1 = n := by
        rw [numAt_succ, numAt_zero, show a + 1 + 0 = a + 1 from rfl]; omega
      unfold headAt
      rw [e1, e2, e3, if_neg (by omega), if_neg (by decide), e4]
      exact hfin _ (by omega)
    · rw [if_neg c2] at at_ hs hfin ⊢
      by_cases c3 : (n : Int) < 65536
      · simp only [if_pos c3, List.length_cons, List.length_nil] at at_ hs hfin ⊢
        have b0 : (byteAt s a : Int) = (32 * (m : Int) + 25) % 256 := at_ 0 (by omega) (show 0 ≤ (32 * (m : Int) + 25) % 256 by omega) (show (32 * (m : Int) + 25) % 256 ≤ 255 by omega)
        have b1 : (byteAt s (a + 1) : Int) = (n : Int) / 256 % 256 := at_ 1 (by omega) (show 0 ≤ (n : Int) / 256 % 256 by omega) (show (n : Int) / 256 % 256 ≤ 255 by omega)
        have b2 : (byteAt s (a + 2) : Int) = (n : Int) % 256 := at_ 2 (by omega) (show 0 ≤ (n : Int) % 256 by omega) (show (n : Int) % 256 ≤ 255 by omega)
        have e1 : byteAt s a % 32 = 25 := by omega
        have e2 : byteAt s a / 32 = m := by omega
        have e3 : manyOf 25 = 2 := rfl
        have e4 : numAt s (a + 1) 2 = n := by
          rw [numAt_succ, numAt_succ, numAt_zero, show a + 1 + 0 = a + 1 from rfl, show a + 1 + 1 = a + 2 from rfl]; omega
        unfold headAt
        rw [e1, e2, e3, if_neg (by omega), if_neg (by decide), e4]
        exact hfin _ (by omega)
      · simp only [if_neg c3, List.length_cons, List.length_nil] at at_ hs hfin ⊢
        have b0 : (byteAt s a : Int) = (32 * (m : Int) + 26) % 256 := at_ 0 (by omega) (show 0 ≤ (32 * (m : Int) + 26) % 256 by omega) (show (32 * (m : Int) + 26) % 256 ≤ 255 by omega)
        have b1 : (byteAt s (a + 1) : Int) = (n : Int) / 16777216 % 256 := at_ 1 (by omega) (show 0 ≤ (n : Int) / 16777216 % 256 by omega) (show (n : Int) / 16777216 % 256 ≤ 255 by omega)
        have b2 : (byteAt s (a + 2) : Int) = (n : Int) / 65536 % 256 := at_ 2 (by omega) (show 0 ≤ (n : Int) / 65536 % 256 by omega) (show (n : Int) / 65536 % 256 ≤ 255 by omega)
        have b3 : (byteAt s (a + 3) : Int) = (n : Int) / 256 % 256 := at_ 3 (by omega) (show 0 ≤ (n : Int) / 256 % 256 by omega) (show (n : Int) / 256 % 256 ≤ 255 by omega)
        have b4 : (byteAt s (a + 4) : Int) = (n : Int) % 256 := at_ 4 (by omega) (show 0 ≤ (n : Int) % 256 by omega) (show (n : Int) % 256 ≤ 255 by omega)
        have e1 : byteAt s a % 32 = 26 := by omega
        have e2 : byteAt s a / 32 = m := by omega
        have e3 : manyOf 26 = 4 := rfl
        have e4 : numAt s (a + 1) 4 = n := by
          rw [numAt_succ, numAt_succ, numAt_succ, numAt_succ, numAt_zero, show a + 1 + 0 = a + 1 from rfl, show a + 1 + 1 = a + 2 from rfl, show a + 1 + 2 = a + 3 from rfl, show a + 1 + 3 = a + 4 from rfl]; omega
        unfold headAt
        rw [e1, e2, e3, if_neg (by omega), if_neg (by decide), e4]
        exact hfin _ (by omega)
theorem implText_go (f0 f1 : Int) (s : ByteArray) (f3 : Int) (hs : s.size ≤ 4611686018427387904) (m : Nat) (hm : m = min s.size 61) (d : Nat) : ∀ i : Nat, i ≤ m → m - i = d →
    ∃ b : Bool, Ev (fun k => impl_itemOK.l0 k (m : Int) (i : Int) f0 f1 s f3) b ∧ (b = true ↔ (SignsFrom s i ∧ s.size ≤ 60 ∧ f1 = 0 ∧ f3 = 0)) := by
  induction d with
  | zero =>
    intro i h0 hd
    obtain rfl : i = m := by omega
    by_cases h60 : s.size ≤ 60
    · have hs0 : SignsFrom s i := fun j h1 h2 => by omega
      by_cases h1 : f1 = 0
      · refine ⟨f3 == 0, ?_, by simp [hs0, h60, h1]⟩
        refine Ev.step (fun k => by rw [impl_itemOK.l0]) ?_
        exact Ev.ite_neg (by omega) (Ev.ite_pos (by omega) (Ev.ite_pos h1 (Ev.now _)))
      · refine ⟨false, ?_, by simp [h1]⟩
        refine Ev.step (fun k => by rw [impl_itemOK.l0]) ?_
        exact Ev.ite_neg (by omega) (Ev.ite_pos (by omega) (Ev.ite_neg h1 (Ev.now _)))
    · refine ⟨false, ?_, by simp [h60]⟩
      refine Ev.step (fun k => by rw [impl_itemOK.l0]) ?_
      exact Ev.ite_neg (by omega) (Ev.ite_neg (by omega) (Ev.now _))
  | succ d ih =>
    intro i h0 hd
    have hi : i < s.size := by omega
    have hb := bt_range s (i : Int)
    have hw : wrap64 ((i : Int) + 1) = ((i + 1 : Nat) : Int) := by rw [w64 (by omega) (by omega)]; omega
    have hwb : wrap64 (bt s (i : Int)) = bt s (i : Int) := w64 (by omega) (by omega)
    have hp : (i : Int) < (m : Int) := by omega
    have hz : (0 : Int) ≤ (i : Int) := by omega
    have hl : (i : Int) < (s.size : Int) := by omega
    obtain ⟨b, x, y⟩ := ih (i + 1) (by omega) (by omega)
    by_cases hr : 32 ≤ bt s (i : Int) ∧ bt s (i : Int) ≤ 126
    · refine ⟨b, ?_, by rw [y, SignsFrom.step hi]; simp [hr]⟩
      refine Ev.step (fun k => by rw [impl_itemOK.l0]) ?_
      refine Ev.ite_pos hp (Ev.ite_pos hz (Ev.ite_pos hl ?_))
      rw [hwb, implWithin]
      simp only [Option.bind_some, hr, and_self, decide_true, if_true]
      rw [hw]; exact x
    · refine ⟨false, ?_, by rw [SignsFrom.step hi]; simp [hr]⟩
      refine Ev.step (fun k => by rw [impl_itemOK.l0]) ?_
      refine Ev.ite_pos hp (Ev.ite_pos hz (Ev.ite_pos hl ?_))
      rw [hwb, implWithin]
      simp only [Option.bind_some, hr, decide_false]
      exact Ev.ite_neg (by simp) (Ev.now _)
theorem implItemOK (f0 f1 : Int) (s : ByteArray) (f3 : Int) (hs : s.size ≤ 4611686018427387904) : ∃ b : Bool, Ev (fun k => impl_itemOK.f k f0 f1 s f3) b ∧ (b = true ↔ OkItem f0 f1 s f3) := by
  simp only [impl_itemOK.f, implValue, implWithin, Option.bind_some, decide_eq_true_eq, toList_nil_iff]
  by_cases h1 : f0 = 1
  · subst h1
    simp only [if_true]
    by_cases hv : 0 ≤ f1 ∧ f1 ≤ 1000000000
    · by_cases ht : s.size = 0
      · exact ⟨f3 == 0, Ev.ite_pos hv (Ev.ite_pos ht (Ev.now _)), by simp [OkItem, hv, ht]⟩
      · exact ⟨false, Ev.ite_pos hv (Ev.ite_neg ht (Ev.now _)), by simp [OkItem, ht]⟩
    · exact ⟨false, Ev.ite_neg hv (Ev.now _), by simp [OkItem]; omega⟩
  · simp only [if_neg h1]
    by_cases h3 : f0 = 3
    · subst h3
      simp only [if_true]
      have e : mn (s.size : Int) 61 = ((min s.size 61 : Nat) : Int) := by unfold mn; split <;> omega
      rw [e]
      obtain ⟨b, x, y⟩ := implText_go 3 f1 s f3 hs (min s.size 61) rfl _ 0 (by omega) rfl
      exact ⟨b, x, by rw [y]; simp [OkItem]⟩
    · simp only [if_neg h3]
      by_cases h2 : f0 = 2
      · subst h2
        simp only [if_true]
        by_cases h60 : s.size ≤ 60
        · by_cases hn : f1 = 0
          · exact ⟨f3 == 0, Ev.ite_pos (by omega) (Ev.ite_pos hn (Ev.now _)), by simp [OkItem, h60, hn]⟩
          · exact ⟨false, Ev.ite_pos (by omega) (Ev.ite_neg hn (Ev.now _)), by simp [OkItem, hn]⟩
        · exact ⟨false, Ev.ite_neg (by omega) (Ev.now _), by simp [OkItem, h60]⟩
      · simp only [if_neg h2]
        by_cases h4 : f0 = 4
        · subst h4
          simp only [if_true]
          by_cases hv : 0 ≤ f3 ∧ f3 ≤ 40
          · by_cases hn : f1 = 0
            · refine ⟨decide (s.size = 0), Ev.ite_pos hv (Ev.ite_pos hn (Ev.now' ?_)), by simp [OkItem, hv, hn]⟩
              rw [Bool.eq_iff_iff]
              simp [toList_nil_iff]
            · exact ⟨false, Ev.ite_pos hv (Ev.ite_neg hn (Ev.now _)), by simp [OkItem, hn]⟩
          · exact ⟨false, Ev.ite_neg hv (Ev.now _), by simp [OkItem]; omega⟩
        · simp only [if_neg h4]
          exact ⟨false, Ev.now _, by simp [OkItem, h1, h2, h3, h4]⟩
def IV (n at_ : Nat) (q : Int × Int) : Prop := q.1 = -1 ∨ ((at_ : Int) < q.1 ∧ q.1 ≤ n ∧ 0 ≤ q.2 ∧ q.2 ≤ q.1 - at_)
theorem implLoop_end (l : List S67) {many : Int} {a x : Nat} {j : Int} (hx : x ≤ 1048576) (h : ¬ j < many) : Ev (fun k => impl_value.l0 k l (a : Int) (x : Int) many j) ((a : Int), (x : Int) + 1) := by
  refine Ev.step (fun k => by rw [impl_value.l0]) ?_
  rw [w64 (x := (x : Int) + 1) (by omega) (by omega)]
  exact Ev.ite_neg h (Ev.now _)
theorem implLoop_fail (l : List S67) {many : Int} {a x : Nat} {j : Int} (h : j < many) {q : Int × Int} (hq : Ev (fun k => impl_value.f k l (a : Int)) q) (hn : q.1 = -1) : Ev (fun k => impl_value.l0 k l (a : Int) (x : Int) many j) (-1, 0) := by
  refine Ev.step (fun k => by rw [impl_value.l0]) ?_
  exact Ev.ite_pos h (Ev.bind hq (Ev.ite_pos (by omega) (Ev.now _)))
theorem implLoop_next (l : List S67) {many : Int} (hm : many ≤ 9223372036854775807) {a x : Nat} {j : Int} (h0 : 0 ≤ j) (h : j < many) {e d : Nat} (hq : Ev (fun k => impl_value.f k l (a : Int)) ((e : Int), (d : Int))) {r : Int × Int}
    (hr : Ev (fun k => impl_value.l0 k l (e : Int) ((max x d : Nat) : Int) many (j + 1)) r) : Ev (fun k => impl_value.l0 k l (a : Int) (x : Int) many j) r := by
  refine Ev.step (fun k => by rw [impl_value.l0]) ?_
  refine Ev.ite_pos h (Ev.bind hq (Ev.ite_neg (by simp only; omega) ?_))
  have e1 : mx (x : Int) (d : Int) = ((max x d : Nat) : Int) := by unfold mx; split <;> omega
  simp only [e1, w64 (show -9223372036854775808 ≤ j + 1 by omega) (show j + 1 ≤ 9223372036854775807 by omega)]
  exact hr
theorem pair_nat {q : Int × Int} (h1 : 0 ≤ q.1) (h2 : 0 ≤ q.2) : ∃ e d : Nat, q = ((e : Int), (d : Int)) := ⟨q.1.toNat, q.2.toNat, by apply Prod.ext <;> simp only <;> omega⟩
theorem implLoop_go (l : List S67) (hl : l.length ≤ 1048576) (many : Int) (hm : many ≤ 9223372036854775807) (b : Nat) (H : ∀ a : Nat, b ≤ a → a ≤ l.length → ∃ q, Ev (fun k => impl_value.f k l (a : Int)) q ∧ IV l.length a q) :
    ∀ (e : Nat) (a x : Nat) (j : Int), l.length - a ≤ e → b ≤ a → a ≤ l.length → x ≤ a - b → 0 ≤ j → ∃ q : Int × Int, Ev (fun k => impl_value.l0 k l (a : Int) (x : Int) many j) q ∧ (q.1 = -1 ∨ ((a : Int) ≤ q.1 ∧ q.1 ≤ l.length ∧ (x : Int) + 1 ≤ q.2 ∧ q.2 ≤ q.1 - b + 1)) := by
  intro e
  induction e with
  | zero =>
    intro a x j h0 h1 h2 hx hj
    by_cases hlt : j < many
    · obtain ⟨q, hq, hi⟩ := H a h1 h2
      have hn : q.1 = -1 := by unfold IV at hi; omega
      exact ⟨(-1, 0), implLoop_fail l hlt hq hn, .inl rfl⟩
    · exact ⟨((a : Int), (x : Int) + 1), implLoop_end l (by omega) hlt, .inr (by simp only; omega)⟩
  | succ e ih =>
    intro a x j h0 h1 h2 hx hj
    by_cases hlt : j < many
    · obtain ⟨q, hq, hi⟩ := H a h1 h2
      rcases hi with hi | hi
      · exact ⟨(-1, 0), implLoop_fail l hlt hq hi, .inl rfl⟩
      · obtain ⟨f, d, rfl⟩ := pair_nat (show 0 ≤ q.1 by omega) hi.2.2.1
        simp only at hi
        obtain ⟨r, hr, hc⟩ := ih f (max x d) (j + 1) (by omega) (by omega) (by omega) (by omega) (by omega)
        exact ⟨r, implLoop_next l hm hj hlt hq hr, by omega⟩
    · exact ⟨((a : Int), (x : Int) + 1), implLoop_end l (by omega) hlt, .inr (by simp only; omega)⟩
theorem implValue_out (l : List S67) {a : Nat} (h : l.length ≤ a) : Ev (fun k => impl_value.f k l (a : Int)) (-1, 0) := by
  refine Ev.step (fun k => by rw [impl_value.f]) ?_
  refine Ev.ite_pos (by omega) ?_
  refine Ev.step (fun k => by rw [impl_value.j0]) ?_
  exact Ev.ite_pos rfl (Ev.now _)
theorem implValue_bad (l : List S67) {a : Nat} (h : a < l.length) (hs : (rd_T67 l (a : Int)).f2.size ≤ 4611686018427387904) (hk : ¬ OkItem (rd_T67 l (a : Int)).f0 (rd_T67 l (a : Int)).f1 (rd_T67 l (a : Int)).f2 (rd_T67 l (a : Int)).f3) : Ev (fun k => impl_value.f k l (a : Int)) (-1, 0) := by
  obtain ⟨b, hb, hbi⟩ := implItemOK (rd_T67 l (a : Int)).f0 (rd_T67 l (a : Int)).f1 (rd_T67 l (a : Int)).f2 (rd_T67 l (a : Int)).f3 hs
  have hbf : b = false := by rw [← Bool.not_eq_true, hbi]; exact hk
  subst hbf
  refine Ev.step (fun k => by rw [impl_value.f]) ?_
  refine Ev.ite_neg (by omega) (Ev.ite_pos (by omega) (Ev.ite_pos (by omega) (Ev.bind hb ?_)))
  refine Ev.step (fun k => by rw [impl_value.j0]) ?_
  exact Ev.ite_pos rfl (Ev.now _)
theorem implValue_one (l : List S67) {a : Nat} (h : a < l.length) (hl : l.length ≤ 1048576) (hs : (rd_T67 l (a : Int)).f2.size ≤ 4611686018427387904) (hk : OkItem (rd_T67 l (a : Int)).f0 (rd_T67 l (a : Int)).f1 (rd_T67 l (a : Int)).f2 (rd_T67 l (a : Int)).f3) (h4 : (rd_T67 l (a : Int)).f0 ≠ 4) : Ev (fun k => impl_value.f k l (a : Int)) ((a : Int) + 1, 0) := by
  obtain ⟨b, hb, hbi⟩ := implItemOK (rd_T67 l (a : Int)).f0 (rd_T67 l (a : Int)).f1 (rd_T67 l (a : Int)).f2 (rd_T67 l (a : Int)).f3 hs
  have hbf : b = true := hbi.mpr hk
  subst hbf
  have hw : wrap64 ((a : Int) + 1) = (a : Int) + 1 := w64 (by omega) (by omega)
  refine Ev.step (fun k => by rw [impl_value.f]) ?_
  refine Ev.ite_neg (by omega) (Ev.ite_pos (by omega) (Ev.ite_pos (by omega) (Ev.bind hb ?_)))
  refine Ev.step (fun k => by rw [impl_value.j0]) ?_
  refine Ev.ite_neg (by simp) (Ev.ite_pos (by omega) (Ev.ite_pos (by omega) (Ev.ite_neg h4 ?_)))
  rw [hw]; exact Ev.now _
theorem implValue_list (l : List S67) {a : Nat} (h : a < l.length) (hl : l.length ≤ 1048576) (hs : (rd_T67 l (a : Int)).f2.size ≤ 4611686018427387904) (hk : OkItem (rd_T67 l (a : Int)).f0 (rd_T67 l (a : Int)).f1 (rd_T67 l (a : Int)).f2 (rd_T67 l (a : Int)).f3) (h4 : (rd_T67 l (a : Int)).f0 = 4) {q : Int × Int}
    (hq : Ev (fun k => impl_value.l0 k l ((a + 1 : Nat) : Int) ((0 : Nat) : Int) (rd_T67 l (a : Int)).f3 0) q) : Ev (fun k => impl_value.f k l (a : Int)) q := by
  obtain ⟨b, hb, hbi⟩ := implItemOK (rd_T67 l (a : Int)).f0 (rd_T67 l (a : Int)).f1 (rd_T67 l (a : Int)).f2 (rd_T67 l (a : Int)).f3 hs
  have hbf : b = true := hbi.mpr hk
  subst hbf
  have hw : wrap64 ((a : Int) + 1) = ((a + 1 : Nat) : Int) := by rw [w64 (by omega) (by omega)]; omega
  refine Ev.step (fun k => by rw [impl_value.f]) ?_
  refine Ev.ite_neg (by omega) (Ev.ite_pos (by omega) (Ev.ite_pos (by omega) (Ev.bind hb ?_)))
  refine Ev.step (fun k => by rw [impl_value.j0]) ?_
  refine Ev.ite_neg (by simp) (Ev.ite_pos (by omega) (Ev.ite_pos (by omega) (Ev.ite_pos h4 ?_)))
  rw [hw]; exact hq
theorem implValue_all (l : List S67) (hl : l.length ≤ 1048576) (hs : ∀ a : Nat, a < l.length → (rd_T67 l (a : Int)).f2.size ≤ 4611686018427387904) (d : Nat) : ∀ a : Nat, l.length - a ≤ d → a ≤ l.length → ∃ q, Ev (fun k => impl_value.f k l (a : Int)) q ∧ IV l.length a q := by
  induction d with
  | zero => intro a h0 h1; exact ⟨(-1, 0), implValue_out l (by omega), .inl rfl⟩
  | succ d ih =>
    intro a h0 h1
    by_cases hlt : a < l.length
    · by_cases hk : OkItem (rd_T67 l (a : Int)).f0 (rd_T67 l (a : Int)).f1 (rd_T67 l (a : Int)).f2 (rd_T67 l (a : Int)).f3
      · by_cases h4 : (rd_T67 l (a : Int)).f0 = 4
        · obtain ⟨q, hq, hc⟩ := implLoop_go l hl (rd_T67 l (a : Int)).f3 (by unfold OkItem at hk; omega) (a + 1) (fun a' h2 h3 => ih a' (by omega) h3) (l.length) (a + 1) 0 0 (by omega) (by omega) (by omega) (by omega) (by omega)
          refine ⟨q, implValue_list l hlt hl (hs a hlt) hk h4 hq, ?_⟩
          unfold IV
          omega
        · exact ⟨_, implValue_one l hlt hl (hs a hlt) hk h4, .inr (by simp only; omega)⟩
      · exact ⟨(-1, 0), implValue_bad l hlt (hs a hlt) hk, .inl rfl⟩
    · exact ⟨(-1, 0), implValue_out l (by omega), .inl rfl⟩
theorem implLoop_ok (l : List S67) (hl : l.length ≤ 1048576) (many : Int) (hm : many ≤ 9223372036854775807) (b : Nat) (H : ∀ a : Nat, b ≤ a → a ≤ l.length → ∃ q, Ev (fun k => impl_value.f k l (a : Int)) q ∧ IV l.length a q ∧ (q.1 = -1 ∨ ∀ i : Nat, a ≤ i → (i : Int) < q.1 → OkAt l i)) :
    ∀ (e : Nat) (a x : Nat) (j : Int), l.length - a ≤ e → b ≤ a → a ≤ l.length → x ≤ a - b → 0 ≤ j → ∃ q : Int × Int, Ev (fun k => impl_value.l0 k l (a : Int) (x : Int) many j) q ∧ (q.1 = -1 ∨ ∀ i : Nat, a ≤ i → (i : Int) < q.1 → OkAt l i) := by
  intro e
  induction e with
  | zero =>
    intro a x j h0 h1 h2 hx hj
    by_cases hlt : j < many
    · obtain ⟨q, hq, hi, _⟩ := H a h1 h2
      have hn : q.1 = -1 := by unfold IV at hi; omega
      exact ⟨(-1, 0), implLoop_fail l hlt hq hn, .inl rfl⟩
    · exact ⟨((a : Int), (x : Int) + 1), implLoop_end l (by omega) hlt, .inr (fun i h3 h4 => by simp only at h4; omega)⟩
  | succ e ih =>
    intro a x j h0 h1 h2 hx hj
    by_cases hlt : j < many
    · obtain ⟨q, hq, hi, ho⟩ := H a h1 h2
      rcases hi with hi | hi
      · exact ⟨(-1, 0), implLoop_fail l hlt hq hi, .inl rfl⟩
      · obtain ⟨f, d, rfl⟩ := pair_nat (show 0 ≤ q.1 by omega) hi.2.2.1
        simp only at hi ho
        obtain ⟨r, hr, hc⟩ := ih f (max x d) (j + 1) (by omega) (by omega) (by omega) (by omega) (by omega)
        refine ⟨r, implLoop_next l hm hj hlt hq hr, ?_⟩
        rcases hc with hc | hc
        · exact .inl hc
        · refine .inr fun i h3 h4 => ?_
          rcases Nat.lt_or_ge i f with h5 | h5
          · rcases ho with ho | ho
            · omega
            · exact ho i h3 (by omega)
          · exact hc i h5 h4
    · exact ⟨((a : Int), (x : Int) + 1), implLoop_end l (by omega) hlt, .inr (fun i h3 h4 => by simp only at h4; omega)⟩
theorem implValue_ok (l : List S67) (hl : l.length ≤ 1048576) (hs : ∀ a : Nat, a < l.length → (rd_T67 l (a : Int)).f2.size ≤ 4611686018427387904) (d : Nat) : ∀ a : Nat, l.length - a ≤ d → a ≤ l.length → ∃ q, Ev (fun k => impl_value.f k l (a : Int)) q ∧ IV l.length a q ∧ (q.1 = -1 ∨ ∀ i : Nat, a ≤ i → (i : Int) < q.1 → OkAt l i) := by
  induction d with
  | zero => intro a h0 h1; exact ⟨(-1, 0), implValue_out l (by omega), .inl rfl, .inl rfl⟩
  | succ d ih =>
    intro a h0 h1
    obtain ⟨q, hq, hi⟩ := implValue_all l hl hs l.length a (by omega) h1
    refine ⟨q, hq, hi, ?_⟩
    by_cases hlt : a < l.length
    · by_cases hk : OkAt l a
      · by_cases h4 : (rd_T67 l (a : Int)).f0 = 4
        · obtain ⟨q', hq', hc⟩ := implLoop_ok l hl (rd_T67 l (a : Int)).f3 (by unfold OkAt OkItem at hk; omega) (a + 1) (fun a' h2 h3 => ih a' (by omega) h3) (l.length) (a + 1) 0 0 (by omega) (by omega) (by omega) (by omega) (by omega)
          have e := Ev.uniq hq (implValue_list l hlt hl (hs a hlt) hk h4 hq')
          subst e
          rcases hc with hc | hc
          · exact .inl hc
          · refine .inr fun i h3 h5 => ?_
            rcases Nat.lt_or_ge a i with h6 | h6
            · exact hc i h6 h5
            · obtain rfl : i = a := by omega
              exact hk
        · have e := Ev.uniq hq (implValue_one l hlt hl (hs a hlt) hk h4)
          subst e
          refine .inr fun i h3 h5 => ?_
          simp only at h5
          obtain rfl : i = a := by omega
          exact hk
      · have e := Ev.uniq hq (implValue_bad l hlt (hs a hlt) hk)
        subst e
        exact .inl rfl
    · have e := Ev.uniq hq (implValue_out l (by omega))
      subst e
      exact .inl rfl
theorem specText_go (a : Nat) (ha : a ≤ 1048576) (deep : Int) (f0 f1 : Int) (s : ByteArray) (f3 : Int) (hs : s.size ≤ 4611686018427387904) (d : Nat) : ∀ i : Nat, i ≤ s.size → s.size - i = d →
    ∃ r : Int × Int × Bool, Ev (fun k => spec_l2Value.l0 k (a : Int) deep (i : Int) f0 f1 s f3) r ∧ (r.2.2 = true ↔ ((f0 = 3 → SignsFrom s i) ∧ s.size ≤ 60 ∧ f1 = 0 ∧ f3 = 0)) ∧ (r.2.2 = true → r.1 = (a : Int) + 1 ∧ r.2.1 = deep) := by
  induction d with
  | zero =>
    intro i h0 hd
    have hs0 : SignsFrom s i := fun j h1 h2 => by omega
    have hw : wrap64 ((a : Int) + 1) = (a : Int) + 1 := w64 (by omega) (by omega)
    by_cases h60 : s.size ≤ 60
    · by_cases h1 : f1 = 0
      · refine ⟨((a : Int) + 1, deep, f3 == 0), ?_, by simp [hs0, h60, h1], fun _ => ⟨rfl, rfl⟩⟩
        refine Ev.step (fun k => by rw [spec_l2Value.l0]) ?_
        rw [hw]
        exact Ev.ite_neg (by omega) (Ev.ite_pos (by omega) (Ev.ite_pos h1 (Ev.now _)))
      · refine ⟨((a : Int) + 1, deep, false), ?_, by simp [h1], fun h => by cases h⟩
        refine Ev.step (fun k => by rw [spec_l2Value.l0]) ?_
        rw [hw]
        exact Ev.ite_neg (by omega) (Ev.ite_pos (by omega) (Ev.ite_neg h1 (Ev.now _)))
    · refine ⟨((a : Int) + 1, deep, false), ?_, by simp [h60], fun h => by cases h⟩
      refine Ev.step (fun k => by rw [spec_l2Value.l0]) ?_
      rw [hw]
      exact Ev.ite_neg (by omega) (Ev.ite_neg (by omega) (Ev.now _))
  | succ d ih =>
    intro i h0 hd
    have hi : i < s.size := by omega
    have hw : wrap64 ((i : Int) + 1) = ((i + 1 : Nat) : Int) := by rw [w64 (by omega) (by omega)]; omega
    have hp : (i : Int) < (s.size : Int) := by omega
    have hz : (0 : Int) ≤ (i : Int) := by omega
    obtain ⟨r, x, y, z⟩ := ih (i + 1) (by omega) (by omega)
    by_cases h3 : f0 = 3
    · by_cases hr : 32 ≤ bt s (i : Int) ∧ bt s (i : Int) ≤ 126
      · refine ⟨r, ?_, by rw [y, SignsFrom.step hi]; simp [hr], z⟩
        refine Ev.step (fun k => by rw [spec_l2Value.l0]) ?_
        refine Ev.ite_pos hp (Ev.ite_pos h3 (Ev.ite_pos hz (Ev.ite_neg (by omega) (Ev.ite_neg (by omega) ?_))))
        rw [hw]; exact x
      · refine ⟨(0, 0, false), ?_, by rw [SignsFrom.step hi]; simp [hr, h3], fun h => by cases h⟩
        refine Ev.step (fun k => by rw [spec_l2Value.l0]) ?_
        refine Ev.ite_pos hp (Ev.ite_pos h3 (Ev.ite_pos hz ?_))
        by_cases hlo : bt s (i : Int) < 32
        · exact Ev.ite_pos hlo (Ev.now _)
        · exact Ev.ite_neg hlo (Ev.ite_pos (by omega) (Ev.now _))
    · refine ⟨r, ?_, by rw [y]; simp [h3], z⟩
      refine Ev.step (fun k => by rw [spec_l2Value.l0]) ?_
      refine Ev.ite_pos hp (Ev.ite_neg h3 ?_)
      rw [hw]; exact x
theorem specValue_out (l : List S67) {a : Nat} {deep : Int} (h : l.length ≤ a) : Ev (fun k => spec_l2Value.f k l (a : Int) deep) (0, 0, false) := by
  refine Ev.step (fun k => by rw [spec_l2Value.f]) ?_
  exact Ev.ite_pos (by omega) (Ev.now _)
theorem specValue_one (l : List S67) {a : Nat} {deep : Int} (h : a < l.length) (hl : l.length ≤ 1048576) (hs : (rd_T67 l (a : Int)).f2.size ≤ 4611686018427387904) (h4 : (rd_T67 l (a : Int)).f0 ≠ 4) :
    ∃ r : Int × Int × Bool, Ev (fun k => spec_l2Value.f k l (a : Int) deep) r ∧ (r.2.2 = true ↔ OkItem (rd_T67 l (a : Int)).f0 (rd_T67 l (a : Int)).f1 (rd_T67 l (a : Int)).f2 (rd_T67 l (a : Int)).f3) ∧ (r.2.2 = true → r.1 = (a : Int) + 1 ∧ r.2.1 = deep) := by
  have hw : wrap64 ((a : Int) + 1) = (a : Int) + 1 := w64 (by omega) (by omega)
  have open_ : ∀ {r}, _ → Ev (fun k => spec_l2Value.f k l (a : Int) deep) r := fun {r} hr => Ev.step (r := r) (fun k => by rw [spec_l2Value.f]) (Ev.ite_neg (by omega) (Ev.ite_pos (by omega) (Ev.ite_pos (by omega) hr)))
  revert open_
  generalize rd_T67 l (a : Int) = x at hs h4 ⊢
  intro open_
  by_cases h1 : x.f0 = 1
  · by_cases hv : 0 ≤ x.f1 ∧ x.f1 ≤ 1000000000
    · by_cases ht : x.f2.size = 0
      · refine ⟨((a : Int) + 1, deep, x.f3 == 0), open_ (Ev.ite_pos h1 ?_), by simp [OkItem, h1, hv, ht], fun _ => ⟨rfl, rfl⟩⟩
        rw [hw, specValue]
        exact Ev.ite_pos (by simpa using hv) (Ev.ite_pos ((toList_nil_iff _).mpr ht) (Ev.now _))
      · refine ⟨((a : Int) + 1, deep, false), open_ (Ev.ite_pos h1 ?_), by simp [OkItem, h1, ht], fun h => by cases h⟩
        rw [hw, specValue]
        exact Ev.ite_pos (by simpa using hv) (Ev.ite_neg (fun h => ht ((toList_nil_iff _).mp h)) (Ev.now _))
    · refine ⟨((a : Int) + 1, deep, false), open_ (Ev.ite_pos h1 ?_), by simp [OkItem, h1]; omega, fun h => by cases h⟩
      rw [hw, specValue]
      exact Ev.ite_neg (by simpa using hv) (Ev.now _)
  · obtain ⟨r, p, q, z⟩ := specText_go a (by omega) deep x.f0 x.f1 x.f2 x.f3 hs x.f2.size 0 (by omega) (by omega)
    by_cases h2 : x.f0 = 2
    · refine ⟨r, open_ (Ev.ite_neg h1 (Ev.ite_pos h2 ?_)), by rw [q]; simp [OkItem, h2], z⟩
      rw [show (x.f0 == 2) = true by simp [h2]]
      refine Ev.step (fun k => by rw [spec_l2Value.j0]) ?_
      exact Ev.ite_pos rfl p
    · by_cases h3 : x.f0 = 3
      · refine ⟨r, open_ (Ev.ite_neg h1 (Ev.ite_neg h2 ?_)), by rw [q]; simp [OkItem, h3], z⟩
        rw [show (x.f0 == 3) = true by simp [h3]]
        refine Ev.step (fun k => by rw [spec_l2Value.j0]) ?_
        exact Ev.ite_pos rfl p
      · refine ⟨(0, 0, false), open_ (Ev.ite_neg h1 (Ev.ite_neg h2 ?_)), by simp [OkItem, h1, h2, h3, h4], fun h => by cases h⟩
        rw [show (x.f0 == 3) = false by simp [h3]]
        refine Ev.step (fun k => by rw [spec_l2Value.j0]) ?_
        exact Ev.ite_neg (by simp) (Ev.ite_neg h4 (Ev.now _))
theorem specValue_noList (l : List S67) {a : Nat} {deep : Int} (h : a < l.length) (hl : l.length ≤ 1048576) (h4 : (rd_T67 l (a : Int)).f0 = 4) (hn : ¬ ((rd_T67 l (a : Int)).f1 = 0 ∧ (rd_T67 l (a : Int)).f2.size = 0 ∧ 0 ≤ (rd_T67 l (a : Int)).f3 ∧ deep ≠ 5)) :
    Ev (fun k => spec_l2Value.f k l (a : Int) deep) (0, 0, false) := by
  have open_ : ∀ {r}, _ → Ev (fun k => spec_l2Value.f k l (a : Int) deep) r := fun {r} hr => Ev.step (r := r) (fun k => by rw [spec_l2Value.f]) (Ev.ite_neg (by omega) (Ev.ite_pos (by omega) (Ev.ite_pos (by omega) hr)))
  revert open_
  generalize rd_T67 l (a : Int) = x at h4 hn ⊢
  intro open_
  refine open_ (Ev.ite_neg (by omega) (Ev.ite_neg (by omega) ?_))
  rw [show (x.f0 == 3) = false by simp [h4]]
  refine Ev.step (fun k => by rw [spec_l2Value.j0]) ?_
  refine Ev.ite_neg (by simp) (Ev.ite_pos h4 ?_)
  have stop : Ev (fun k => spec_l2Value.j2 k l (a : Int) deep true x.f0 x.f1 x.f2 x.f3) (0, 0, false) := by
    refine Ev.step (fun k => by rw [spec_l2Value.j2]) ?_
    exact Ev.ite_pos rfl (Ev.now _)
  refine Ev.ite (fun h1 => Ev.ite (fun h2 => Ev.ite (fun h3 => stop) fun h3 => ?_) fun h2 => stop) fun h1 => stop
  rw [toList_nil_iff] at h2
  have : deep = 5 := by omega
  rw [show (deep == 5) = true by simp [this]]
  exact stop
theorem specValue_list (l : List S67) {a : Nat} {deep : Nat} (h : a < l.length) (hl : l.length ≤ 1048576) (h4 : (rd_T67 l (a : Int)).f0 = 4) (hn : (rd_T67 l (a : Int)).f1 = 0 ∧ (rd_T67 l (a : Int)).f2.size = 0 ∧ 0 ≤ (rd_T67 l (a : Int)).f3 ∧ deep < 5) {r : Int × Int × Bool}
    (hr : Ev (fun k => spec_l2Value.l1 k l (deep : Int) ((deep + 1 : Nat) : Int) ((a + 1 : Nat) : Int) 0 (rd_T67 l (a : Int)).f0 (rd_T67 l (a : Int)).f1 (rd_T67 l (a : Int)).f2 (rd_T67 l (a : Int)).f3) r) :
    Ev (fun k => spec_l2Value.f k l (a : Int) (deep : Int)) r := by
  have hw : wrap64 ((a : Int) + 1) = ((a + 1 : Nat) : Int) := by rw [w64 (by omega) (by omega)]; omega
  have hw2 : wrap64 ((deep : Int) + 1) = ((deep + 1 : Nat) : Int) := by rw [w64 (by omega) (by omega)]; omega
  have open_ : ∀ {r}, _ → Ev (fun k => spec_l2Value.f k l (a : Int) (deep : Int)) r := fun {r} hr => Ev.step (r := r) (fun k => by rw [spec_l2Value.f]) (Ev.ite_neg (by omega) (Ev.ite_pos (by omega) (Ev.ite_pos (by omega) hr)))
  revert open_
  generalize rd_T67 l (a : Int) = x at h4 hn hr ⊢
  intro open_
  refine open_ (Ev.ite_neg (by omega) (Ev.ite_neg (by omega) ?_))
  rw [show (x.f0 == 3) = false by simp [h4]]
  refine Ev.step (fun k => by rw [spec_l2Value.j0]) ?_
  refine Ev.ite_neg (by simp) (Ev.ite_pos h4 (Ev.ite_pos hn.1 (Ev.ite_pos ((toList_nil_iff _).mpr hn.2.1) (Ev.ite_neg (by omega) ?_))))
  rw [show ((deep : Int) == 5) = false by simp; omega]
  refine Ev.step (fun k => by rw [spec_l2Value.j2]) ?_
  refine Ev.ite_neg (by simp) ?_
  rw [hw, hw2]
  exact hr
def Rel (deep : Nat) (r : Int × Int × Bool) (q : Int × Int) : Prop :=
  (r.2.2 = true → q.1 = r.1 ∧ r.2.1 = deep + q.2 ∧ deep + q.2 ≤ 5) ∧ (r.2.2 = false → q.1 = -1 ∨ 5 < deep + q.2)
theorem specLoop_go (l : List S67) (hl : l.length ≤ 1048576) (f0 f1 : Int) (f2 : ByteArray) (many : Int) (hm : many ≤ 9223372036854775807) (deep : Nat) (hd : deep < 5) (b : Nat)
    (Hi : ∀ a : Nat, b ≤ a → a ≤ l.length → ∃ q, Ev (fun k => impl_value.f k l (a : Int)) q ∧ IV l.length a q)
    (H : ∀ a : Nat, b ≤ a → a ≤ l.length → ∃ r, Ev (fun k => spec_l2Value.f k l (a : Int) ((deep + 1 : Nat) : Int)) r ∧ (r.2.2 = true → (a : Int) < r.1 ∧ r.1 ≤ l.length ∧ ((deep + 1 : Nat) : Int) ≤ r.2.1 ∧ r.2.1 ≤ 5) ∧ (l.length ≤ 40 → ∃ q, Ev (fun k => impl_value.f k l (a : Int)) q ∧ IV l.length a q ∧ Rel (deep + 1) r q)) :
    ∀ (e : Nat) (a x : Nat) (j : Int), l.length - a ≤ e → b ≤ a → a ≤ l.length → (l.length ≤ 40 → x ≤ a - b) → deep + 1 + x ≤ 5 → 0 ≤ j →
      ∃ r, Ev (fun k => spec_l2Value.l1 k l (deep : Int) ((deep + 1 + x : Nat) : Int) (a : Int) j f0 f1 f2 many) r ∧ (r.2.2 = true → (a : Int) ≤ r.1 ∧ r.1 ≤ l.length ∧ (deep : Int) + 1 ≤ r.2.1 ∧ r.2.1 ≤ 5 ∧ (j ≤ many → (a : Int) + (many - j) ≤ r.1)) ∧
        (l.length ≤ 40 → ∃ q, Ev (fun k => impl_value.l0 k l (a : Int) (x : Int) many j) q ∧ Rel deep r q) := by
  have stop : ∀ {a x : Nat} {j : Int} {r}, j < many → Ev (fun k => spec_l2Value.f k l (a : Int) ((deep + 1 : Nat) : Int)) r → r.2.2 = false → Ev (fun k => spec_l2Value.l1 k l (deep : Int) ((deep + 1 + x : Nat) : Int) (a : Int) j f0 f1 f2 many) (0, 0, false) := by
    intro a x j r h hr hf
    refine Ev.step (fun k => by rw [spec_l2Value.l1]) ?_
    have hw2 : wrap64 ((deep : Int) + 1) = ((deep + 1 : Nat) : Int) := by rw [w64 (by omega) (by omega)]; omega
    rw [hw2]
    exact Ev.ite_pos h (Ev.bind hr (Ev.ite_neg (by simp [hf]) (Ev.now _)))
  have fin : ∀ {a x : Nat} {j : Int}, ¬ j < many → Ev (fun k => spec_l2Value.l1 k l (deep : Int) ((deep + 1 + x : Nat) : Int) (a : Int) j f0 f1 f2 many) ((a : Int), ((deep + 1 + x : Nat) : Int), true) := by
    intro a x j h
    refine Ev.step (fun k => by rw [spec_l2Value.l1]) ?_
    exact Ev.ite_neg h (Ev.now _)
  have next : ∀ {a x : Nat} {j : Int} {e d : Nat} {r}, 0 ≤ j → j < many → Ev (fun k => spec_l2Value.f k l (a : Int) ((deep + 1 : Nat) : Int)) ((e : Int), ((deep + 1 + d : Nat) : Int), true) → Ev (fun k => spec_l2Value.l1 k l (deep : Int) ((deep + 1 + max x d : Nat) : Int) (e : Int) (j + 1) f0 f1 f2 many) r →
      Ev (fun k => spec_l2Value.l1 k l (deep : Int) ((deep + 1 + x : Nat) : Int) (a : Int) j f0 f1 f2 many) r := by
    intro a x j e d r h0 h hr hn
    refine Ev.step (fun k => by rw [spec_l2Value.l1]) ?_
    have hw2 : wrap64 ((deep : Int) + 1) = ((deep + 1 : Nat) : Int) := by rw [w64 (by omega) (by omega)]; omega
    have hw3 : wrap64 (j + 1) = j + 1 := w64 (by omega) (by omega)
    rw [hw2, hw3]
    refine Ev.ite_pos h (Ev.bind hr (Ev.ite_pos rfl ?_))
    by_cases hxd : x < d
    · refine Ev.ite_pos (by simp only; omega) ?_
      rw [show max x d = d by omega] at hn
      exact hn
    · refine Ev.ite_neg (by simp only; omega) ?_
      rw [show max x d = x by omega] at hn
      exact hn
  intro e
  induction e with
  | zero =>
    intro a x j h0 h1 h2 hx h5 hj
    by_cases hlt : j < many
    · obtain ⟨r, hr, hc, hq⟩ := H a h1 h2
      have hf : r.2.2 = false := by
        rw [← Bool.not_eq_true]; intro ht; have := hc ht; omega
      refine ⟨(0, 0, false), stop hlt hr hf, fun h => (by cases h), fun h40 => ?_⟩
      obtain ⟨q, hq1, hq2, _⟩ := hq h40
      exact ⟨(-1, 0), implLoop_fail l hlt hq1 (by unfold IV at hq2; omega), ⟨fun h => (by cases h), fun _ => .inl rfl⟩⟩
    · exact ⟨_, fin hlt, fun _ => (by simp only; omega), fun _ => ⟨_, implLoop_end l (by omega) hlt, ⟨fun _ => ⟨rfl, (by simp only; omega), (by simp only; omega)⟩, fun h => (by cases h)⟩⟩⟩
  | succ e ih =>
    intro a x j h0 h1 h2 hx h5 hj
    by_cases hlt : j < many
    · obtain ⟨r, hr, hc, hq⟩ := H a h1 h2
      cases hrb : r.2.2 with
      | false =>
        refine ⟨(0, 0, false), stop hlt hr hrb, fun h => (by cases h), fun h40 => ?_⟩
        obtain ⟨q, hq1, hq2, hq3⟩ := hq h40
        rcases hq2 with hq2 | hq2
        · exact ⟨(-1, 0), implLoop_fail l hlt hq1 hq2, ⟨fun h => (by cases h), fun _ => .inl rfl⟩⟩
        · have h6 := hq3.2 hrb
          obtain ⟨f, g, rfl⟩ := pair_nat (show 0 ≤ q.1 by omega) hq2.2.2.1
          simp only at hq2 h6
          obtain ⟨u, hu1, hu2⟩ := implLoop_go l hl many hm b Hi l.length f (max x g) (j + 1) (by omega) (by omega) (by omega) (by have := hx h40; omega) (by omega)
          exact ⟨u, implLoop_next l hm hj hlt hq1 hu1, ⟨fun h => (by cases h), fun _ => (by omega)⟩⟩
      | true =>
        have hc := hc hrb
        obtain ⟨r1, r2, r3⟩ := r
        simp only at hrb hc
        subst hrb
        obtain ⟨f, rfl⟩ := Int.eq_ofNat_of_zero_le (show 0 ≤ r1 by omega)
        obtain ⟨g, hg⟩ := Int.eq_ofNat_of_zero_le (show 0 ≤ r2 - ((deep + 1 : Nat) : Int) by omega)
        obtain rfl : r2 = ((deep + 1 + g : Nat) : Int) := by omega
        have hgx : l.length ≤ 40 → g ≤ f - a := by
          intro h40
          obtain ⟨q, hq1, hq2, hq3⟩ := hq h40
          have h7 := hq3.1 rfl
          simp only at h7
          unfold IV at hq2
          omega
        · obtain ⟨u, hu1, hu2, hu3⟩ := ih f (max x g) (j + 1) (by omega) (by omega) (by omega) (fun h40 => by have := hx h40; have := hgx h40; omega) (by omega) (by omega)
          refine ⟨u, next hj hlt hr hu1, fun h => (by have := hu2 h; omega), fun h40 => ?_⟩
          obtain ⟨q, hq1, hq2, hq3⟩ := hq h40
          have h7 := hq3.1 rfl
          simp only at h7
          obtain ⟨v, hv1, hv2⟩ := hu3 h40
          obtain ⟨q1, q2⟩ := q
          simp only at h7
          obtain rfl : q1 = (f : Int) := h7.1
          obtain rfl : q2 = (g : Int) := by omega
          exact ⟨v, implLoop_next l hm hj hlt hq1 hv1, hv2⟩
    · exact ⟨_, fin hlt, fun _ => (by simp only; omega), fun _ => ⟨_, implLoop_end l (by omega) hlt, ⟨fun _ => ⟨rfl, (by simp only; omega), (by simp only; omega)⟩, fun h => (by cases h)⟩⟩⟩
theorem specValue_all (l : List S67) (hl : l.length ≤ 1048576) (hs : ∀ a : Nat, a < l.length → (rd_T67 l (a : Int)).f2.size ≤ 4611686018427387904) (hm : ∀ a : Nat, a < l.length → (rd_T67 l (a : Int)).f3 ≤ 9223372036854775807) (d : Nat) : ∀ (a deep : Nat), l.length - a ≤ d → a ≤ l.length → deep ≤ 5 →
    ∃ r, Ev (fun k => spec_l2Value.f k l (a : Int) (deep : Int)) r ∧ (r.2.2 = true → (a : Int) < r.1 ∧ r.1 ≤ l.length ∧ (deep : Int) ≤ r.2.1 ∧ r.2.1 ≤ 5) ∧ (l.length ≤ 40 → ∃ q, Ev (fun k => impl_value.f k l (a : Int)) q ∧ IV l.length a q ∧ Rel deep r q) := by
  induction d with
  | zero =>
    intro a deep h0 h1 h2
    exact ⟨(0, 0, false), specValue_out l (by omega), fun h => (by cases h), fun _ => ⟨(-1, 0), implValue_out l (by omega), .inl rfl, ⟨fun h => (by cases h), fun _ => .inl rfl⟩⟩⟩
  | succ d ih =>
    intro a deep h0 h1 h2
    by_cases hlt : a < l.length
    · have hbad : ¬ OkItem (rd_T67 l (a : Int)).f0 (rd_T67 l (a : Int)).f1 (rd_T67 l (a : Int)).f2 (rd_T67 l (a : Int)).f3 → ∃ q, Ev (fun k => impl_value.f k l (a : Int)) q ∧ IV l.length a q ∧ q.1 = -1 := fun hk =>
        ⟨(-1, 0), implValue_bad l hlt (hs a hlt) hk, .inl rfl, rfl⟩
      by_cases h4 : (rd_T67 l (a : Int)).f0 = 4
      · obtain ⟨q, hq1, hq2⟩ := implValue_all l hl hs l.length a (by omega) h1
        by_cases hn : (rd_T67 l (a : Int)).f1 = 0 ∧ (rd_T67 l (a : Int)).f2.size = 0 ∧ 0 ≤ (rd_T67 l (a : Int)).f3
        · by_cases h5 : deep < 5
          · obtain ⟨r, hr1, hr2, hr3⟩ := specLoop_go l hl (rd_T67 l (a : Int)).f0 (rd_T67 l (a : Int)).f1 (rd_T67 l (a : Int)).f2 (rd_T67 l (a : Int)).f3 (hm a hlt) deep h5 (a + 1)
              (fun a' _ h3 => implValue_all l hl hs l.length a' (by omega) h3) (fun a' h2' h3 => ih a' (deep + 1) (by omega) h3 (by omega)) l.length (a + 1) 0 0 (by omega) (by omega) (by omega) (fun _ => by omega) (by omega) (by omega)
            refine ⟨r, specValue_list l hlt hl h4 ⟨hn.1, hn.2.1, hn.2.2, h5⟩ hr1, fun h => (by have := hr2 h; omega), fun h40 => ?_⟩
            by_cases hk : OkItem (rd_T67 l (a : Int)).f0 (rd_T67 l (a : Int)).f1 (rd_T67 l (a : Int)).f2 (rd_T67 l (a : Int)).f3
            · obtain ⟨q', hq3, hq4⟩ := hr3 h40
              have e := Ev.uniq hq1 (implValue_list l hlt hl (hs a hlt) hk h4 hq3)
              subst e
              exact ⟨q, hq1, hq2, hq4⟩
            · obtain ⟨q', hq3, hq4, hq5⟩ := hbad hk
              refine ⟨q', hq3, hq4, ⟨fun h => ?_, fun _ => .inl hq5⟩⟩
              have h6 := hr2 h
              unfold OkItem at hk
              omega
          · refine ⟨(0, 0, false), specValue_noList l hlt hl h4 (by omega), fun h => (by cases h), fun h40 => ⟨q, hq1, hq2, ⟨fun h => (by cases h), fun _ => ?_⟩⟩⟩
            by_cases hk : OkItem (rd_T67 l (a : Int)).f0 (rd_T67 l (a : Int)).f1 (rd_T67 l (a : Int)).f2 (rd_T67 l (a : Int)).f3
            · obtain ⟨q', hq3, hq4⟩ := implLoop_go l hl (rd_T67 l (a : Int)).f3 (hm a hlt) (a + 1) (fun a' _ h3 => implValue_all l hl hs l.length a' (by omega) h3) l.length (a + 1) 0 0 (by omega) (by omega) (by omega) (by omega) (by omega)
              have e := Ev.uniq hq1 (implValue_list l hlt hl (hs a hlt) hk h4 hq3)
              subst e
              omega
            · obtain ⟨q', hq3, hq4, hq5⟩ := hbad hk
              have e := Ev.uniq hq1 hq3
              subst e
              exact .inl hq5
        · have hk : ¬ OkItem (rd_T67 l (a : Int)).f0 (rd_T67 l (a : Int)).f1 (rd_T67 l (a : Int)).f2 (rd_T67 l (a : Int)).f3 := by unfold OkItem; omega
          obtain ⟨q', hq3, hq4, hq5⟩ := hbad hk
          exact ⟨(0, 0, false), specValue_noList l hlt hl h4 (by omega), fun h => (by cases h), fun h40 => ⟨q', hq3, hq4, ⟨fun h => (by cases h), fun _ => .inl hq5⟩⟩⟩
      · obtain ⟨r, hr1, hr2, hr3⟩ := specValue_one l (deep := (deep : Int)) hlt hl (hs a hlt) h4
        refine ⟨r, hr1, fun h => (by have := hr3 h; omega), fun h40 => ?_⟩
        by_cases hk : OkItem (rd_T67 l (a : Int)).f0 (rd_T67 l (a : Int)).f1 (rd_T67 l (a : Int)).f2 (rd_T67 l (a : Int)).f3
        · have h7 := hr3 (hr2.mpr hk)
          exact ⟨_, implValue_one l hlt hl (hs a hlt) hk h4, .inr (by simp only; omega), ⟨fun _ => ⟨h7.1.symm, (by simp only; omega), (by simp only; omega)⟩, fun h => (by rw [hr2.mpr hk] at h; cases h)⟩⟩
        · obtain ⟨q', hq3, hq4, hq5⟩ := hbad hk
          exact ⟨q', hq3, hq4, ⟨fun h => absurd (hr2.mp h) hk, fun _ => .inl hq5⟩⟩
    · exact ⟨(0, 0, false), specValue_out l (by omega), fun h => (by cases h), fun _ => ⟨(-1, 0), implValue_out l (by omega), .inl rfl, ⟨fun h => (by cases h), fun _ => .inl rfl⟩⟩⟩
theorem goodItems_both (l : List S67) (hl : l.length ≤ 1048576) (hs : ∀ a : Nat, a < l.length → (rd_T67 l (a : Int)).f2.size ≤ 4611686018427387904) (hm : ∀ a : Nat, a < l.length → (rd_T67 l (a : Int)).f3 ≤ 9223372036854775807) :
    ∃ b : Bool, Ev (fun k => spec_GoodItems.f k l) b ∧ Ev (fun k => impl_GoodItems.f k l) b ∧
      (b = true → (∀ i : Nat, i < l.length → OkAt l i) ∧ (itemsText l).size ≤ 400 ∧ 1 ≤ l.length ∧ l.length ≤ 40 ∧ ∃ dp : Nat, Ev (fun k => spec_l2Value.f k l 0 0) ((l.length : Int), (dp : Int), true) ∧ Ev (fun k => impl_value.f k l 0) ((l.length : Int), (dp : Int)) ∧ dp ≤ 5) := by
  obtain ⟨r, hr, hc, hq⟩ := specValue_all l hl hs hm l.length 0 0 (by omega) (by omega) (by omega)
  have hr0 : Ev (fun k => spec_l2Value.f k l 0 0) r := hr
  by_cases h40 : 1 ≤ l.length ∧ l.length ≤ 40
  · obtain ⟨q, hq1, hq2, hq3⟩ := hq h40.2
    obtain ⟨q', hq4, hq5, hq6⟩ := implValue_ok l hl hs l.length 0 (by omega) (by omega)
    have e := Ev.uniq hq1 hq4
    subst e
    have hq0 : Ev (fun k => impl_value.f k l 0) q := hq1
    by_cases hg : r.2.2 = true ∧ r.1 = (l.length : Int)
    · have h7 := hq3.1 hg.1
      have hcc := hc hg.1
      have ok : ∀ i : Nat, i < l.length → OkAt l i := by
        rcases hq6 with hq6 | hq6
        · omega
        · exact fun i hi => hq6 i (by omega) (by omega)
      obtain ⟨bs, bi⟩ := bytes_both l hl ok
      obtain ⟨r1, r2, r3⟩ := r
      obtain ⟨q1, q2⟩ := q
      simp only at hg h7 hcc
      obtain ⟨hg1, hg2⟩ := hg
      subst hg1
      obtain ⟨dp, hdp⟩ := Int.eq_ofNat_of_zero_le (show 0 ≤ q2 by unfold IV at hq5; simp only at hq5; omega)
      obtain rfl : r2 = (dp : Int) := by omega
      obtain rfl : r1 = (l.length : Int) := hg2
      obtain rfl : q1 = (l.length : Int) := h7.1
      obtain rfl : q2 = (dp : Int) := hdp
      refine ⟨decide (((itemsText l).size : Int) ≤ 400), ?_, ?_, fun h => ⟨ok, by have := of_decide_eq_true h; omega, h40.1, h40.2, dp, hr0, hq0, by omega⟩⟩
      · simp only [spec_GoodItems.f, spec_l2Good.f]
        refine Ev.bind (Ev.bind hr0 (Ev.ite_pos rfl (Ev.ite_pos rfl (Ev.now _)))) ?_
        refine Ev.ite_pos (decide_eq_true (by omega)) (Ev.bind bs (Ev.now _))
      · simp only [impl_GoodItems.f, implWithin, Option.bind_some]
        refine Ev.ite_pos (decide_eq_true (by omega)) (Ev.bind hq0 (Ev.ite_pos rfl (Ev.ite_pos (by simp only; omega) (Ev.bind bi (Ev.now _)))))
    · refine ⟨false, ?_, ?_, fun h => by cases h⟩
      · simp only [spec_GoodItems.f, spec_l2Good.f]
        refine Ev.bind (a := false) (Ev.bind hr0 ?_) (Ev.ite_neg (by simp) (Ev.now _))
        refine Ev.ite (fun h1 => Ev.ite_neg (fun h2 => hg ⟨h1, h2⟩) (Ev.now _)) fun _ => Ev.now _
      · simp only [impl_GoodItems.f, implWithin, Option.bind_some]
        refine Ev.ite_pos (decide_eq_true (by omega)) (Ev.bind hq0 ?_)
        refine Ev.ite (fun h1 => Ev.ite_neg ?_ (Ev.now _)) fun _ => Ev.now _
        intro h5
        cases hb : r.2.2 with
        | true =>
          have h7 := hq3.1 hb
          exact hg ⟨hb, by omega⟩
        | false =>
          have h7 := hq3.2 hb
          omega
  · refine ⟨false, ?_, ?_, fun h => by cases h⟩
    · simp only [spec_GoodItems.f, spec_l2Good.f]
      refine Ev.bind (a := false) (Ev.bind hr0 ?_) (Ev.ite_neg (by simp) (Ev.now _))
      refine Ev.ite (fun h1 => Ev.ite (fun h2 => ?_) fun _ => Ev.now _) fun _ => Ev.now _
      have := hc h1
      exact Ev.now' (decide_eq_false (by omega))
    · simp only [impl_GoodItems.f, implWithin, Option.bind_some]
      exact Ev.ite_neg (by simp; omega) (Ev.now _)
theorem headEnd_cases (s : ByteArray) (a m n e : Nat) : headEnd s a m n e = (0, 0, 0, false) ∨ (headEnd s a m n e = ((m : Int), (n : Int), (e : Int), true) ∧ n ≤ 1000000000 ∧ headText (m : Int) (n : Int) = s.extract a e) := by
  unfold headEnd
  by_cases h : n ≤ 1000000000 ∧ (headText (m : Int) (n : Int)).toList = (s.extract a e).toList
  · rw [if_pos h]
    refine .inr ⟨rfl, h.1, ?_⟩
    have := h.2
    rw [ByteArray.toList_eq, ByteArray.toList_eq] at this
    exact str_ext this
  · rw [if_neg h]
    exact .inl rfl
theorem headAt_cases (s : ByteArray) (a : Nat) : headAt s a = (0, 0, 0, false) ∨ ∃ m n e : Nat, headAt s a = ((m : Int), (n : Int), (e : Int), true) ∧ m ≤ 7 ∧ n ≤ 1000000000 ∧ a < e ∧ e ≤ s.size ∧ headText (m : Int) (n : Int) = s.extract a e := by
  have hb := byteAt_lt s a
  unfold headAt
  by_cases h : byteAt s a % 32 > 26 ∨ a + 1 + manyOf (byteAt s a % 32) > s.size
  · rw [if_pos h]; exact .inl rfl
  · rw [if_neg h]
    rcases headEnd_cases s a (byteAt s a / 32) (if manyOf (byteAt s a % 32) = 0 then byteAt s a % 32 else numAt s (a + 1) (manyOf (byteAt s a % 32))) (a + 1 + manyOf (byteAt s a % 32)) with h1 | ⟨h1, h2, h3⟩
    · exact .inl h1
    · exact .inr ⟨_, _, _, h1, by omega, h2, by omega, by omega, h3⟩
def stepOf (s : ByteArray) (q : Int × Int × Int × Bool) : Option (S67 × Int) :=
  if q.2.2.2 = true then
    if q.1 = 0 then some (⟨1, q.2.1, ⟨#[]⟩, 0⟩, q.2.2.1)
    else if q.1 = 4 then some (⟨4, 0, ⟨#[]⟩, q.2.1⟩, q.2.2.1)
    else if q.1 = 2 ∨ q.1 = 3 then if q.2.1 ≤ (s.size : Int) - q.2.2.1 then some (⟨q.1, 0, s.extract q.2.2.1.toNat (q.2.2.1 + q.2.1).toNat, 0⟩, q.2.2.1 + q.2.1) else none
    else none
  else none
def stepAt (s : ByteArray) (a : Nat) : Option (S67 × Int) := stepOf s (headAt s a)
theorem extract_join (s : ByteArray) (a b c : Nat) (h1 : a ≤ b) (h2 : b ≤ c) : s.extract a b ++ s.extract b c = s.extract a c := by
  rw [ByteArray.extract_append_extract]
  congr 1 <;> omega
theorem stepAt_some {s : ByteArray} {a : Nat} {x : S67} {e : Int} (h : stepAt s a = some (x, e)) :
    ∃ b : Nat, e = (b : Int) ∧ a < b ∧ b ≤ s.size ∧ itemText x.f0 x.f1 x.f2 x.f3 = s.extract a b ∧ x.f2.size ≤ s.size ∧ x.f3 ≤ 1000000000 := by
  unfold stepAt at h
  rcases headAt_cases s a with h0 | ⟨m, n, b, h0, h1, h2, h3, h4, h5⟩
  · rw [h0] at h
    simp [stepOf] at h
  · rw [h0] at h
    unfold stepOf at h
    simp only [if_true] at h
    by_cases m0 : (m : Int) = 0
    · rw [if_pos m0] at h
      simp only [Option.some.injEq, Prod.mk.injEq] at h
      obtain ⟨rfl, rfl⟩ := h
      rw [m0] at h5
      exact ⟨b, rfl, h3, h4, by simp only [itemText, if_true]; exact h5, Nat.zero_le _, by simp⟩
    · rw [if_neg m0] at h
      by_cases m4 : (m : Int) = 4
      · rw [if_pos m4] at h
        simp only [Option.some.injEq, Prod.mk.injEq] at h
        obtain ⟨rfl, rfl⟩ := h
        rw [m4] at h5
        exact ⟨b, rfl, h3, h4, by simp [itemText]; exact h5, Nat.zero_le _, by simp only; omega⟩
      · rw [if_neg m4] at h
        by_cases m2 : (m : Int) = 2 ∨ (m : Int) = 3
        · rw [if_pos m2] at h
          by_cases hn : (n : Int) ≤ (s.size : Int) - (b : Int)
          · rw [if_pos hn] at h
            simp only [Option.some.injEq, Prod.mk.injEq] at h
            obtain ⟨rfl, rfl⟩ := h
            have hz : (s.extract b (b + n)).size = n := by rw [ByteArray.size_extract]; omega
            have ex : s.extract ((b : Int)).toNat ((b : Int) + (n : Int)).toNat = s.extract b (b + n) := by
              congr 1
            refine ⟨b + n, by simp, by omega, by omega, ?_, ?_, by simp⟩
            · simp only [ex]
              rw [← extract_join s a b (b + n) (by omega) (by omega), ← h5]
              unfold itemText
              rcases m2 with m2 | m2
              · rw [m2, if_neg (by decide), if_pos rfl, hz]
              · rw [m2, if_neg (by decide), if_neg (by decide), if_pos rfl, hz]
            · simp only [ex]
              omega
          · rw [if_neg hn] at h
            cases h
        · rw [if_neg m2] at h
          cases h
theorem itemsText_append (l k : List S67) : itemsText (l ++ k) = itemsText l ++ itemsText k := by
  induction l with
  | nil => simp only [List.nil_append, itemsText, empty_append]
  | cons x l ih => simp only [List.cons_append, itemsText, ih, append_assoc']
theorem specRead_step {s : ByteArray} (hs : s.size ≤ 400) {out : List S67} {a : Nat} (ha : a < s.size) (hl : out.length ≤ 40) {r : List S67 × Bool}
    (h0 : stepAt s a = none → r = ([], false)) (h1 : ∀ x e, stepAt s a = some (x, e) → Ev (fun k => spec_ReadItems.l0 k s (out ++ [x]) e) r) : Ev (fun k => spec_ReadItems.l0 k s out (a : Int)) r := by
  have c1 : (a : Int) < (s.size : Int) := by omega
  have c2 : (out.length : Int) ≤ 40 := by omega
  have c3 : out.length < 3518437208883 := by omega
  refine Ev.step (fun k => by rw [spec_ReadItems.l0]) ?_
  refine Ev.ite_pos c1 ?_
  rw [decide_eq_true c2]
  refine Ev.step (fun k => by rw [spec_ReadItems.j1]) ?_
  refine Ev.ite_pos rfl (Ev.bind (specTakeHead (by omega) a ha) ?_)
  unfold stepAt at h0 h1
  rcases headAt_cases s a with e0 | ⟨m, n, b, e0, e1, e2, e3, e4, e5⟩
  · rw [e0] at h0 h1 ⊢
    rw [h0 (by simp [stepOf])]
    exact Ev.ite_neg (by decide) (Ev.now _)
  · rw [e0] at h0 h1 ⊢
    unfold stepOf at h0 h1
    simp only [if_true] at h0 h1 ⊢
    by_cases m0 : (m : Int) = 0
    · rw [if_pos m0] at h0 h1
      exact Ev.ite_pos m0 (Ev.ite_pos c3 (h1 _ _ rfl))
    · rw [if_neg m0] at h0 h1
      refine Ev.ite_neg m0 ?_
      by_cases m4 : (m : Int) = 4
      · rw [if_pos m4] at h0 h1
        exact Ev.ite_pos m4 (Ev.ite_pos c3 (h1 _ _ rfl))
      · rw [if_neg m4] at h0 h1
        refine Ev.ite_neg m4 ?_
        have ws : wrap64 ((s.size : Int) - (b : Int)) = (s.size : Int) - (b : Int) := w64 (by omega) (by omega)
        rw [ws]
        have txt : (m : Int) = 2 ∨ (m : Int) = 3 → Ev (fun k => if (n : Int) ≤ (s.size : Int) - (b : Int) then (if 0 ≤ (b : Int) then (if (b : Int) ≤ (wrap64 ((b : Int) + (n : Int))) then (if (wrap64 ((b : Int) + (n : Int))) ≤ (s.size : Int) then (if out.length < 3518437208883 then (spec_ReadItems.l0 k s (out ++ [(⟨wrap64 ((wrap64 (2 + (m : Int))) - 2), 0, s.extract (b : Int).toNat ((wrap64 ((b : Int) + (n : Int))) : Int).toNat, 0⟩ : S67)]) (wrap64 ((b : Int) + (n : Int)))) else (none)) else (none)) else (none)) else (none)) else (some (([] : List S67), false))) r := by
          intro m23
          rw [if_pos m23] at h0 h1
          by_cases hn : (n : Int) ≤ (s.size : Int) - (b : Int)
          · rw [if_pos hn] at h0 h1
            have wb : wrap64 ((b : Int) + (n : Int)) = (b : Int) + (n : Int) := w64 (by omega) (by omega)
            have wm : wrap64 (wrap64 (2 + (m : Int)) - 2) = (m : Int) := by rw [w64 (x := 2 + (m : Int)) (by omega) (by omega), w64 (by omega) (by omega)]; omega
            rw [wb, wm]
            exact Ev.ite_pos hn (Ev.ite_pos (by omega) (Ev.ite_pos (by omega) (Ev.ite_pos (by omega) (Ev.ite_pos c3 (h1 _ _ rfl)))))
          · rw [if_neg hn] at h0 h1
            rw [h0 rfl]
            exact Ev.ite_neg hn (Ev.now _)
        by_cases m2 : (m : Int) = 2
        · exact Ev.ite_pos m2 (txt (.inl m2))
        · refine Ev.ite_neg m2 ?_
          by_cases m3 : (m : Int) = 3
          · exact Ev.ite_pos m3 (txt (.inr m3))
          · rw [if_neg (show ¬ ((m : Int) = 2 ∨ (m : Int) = 3) from fun h => h.elim m2 m3)] at h0
            rw [h0 rfl]
            exact Ev.ite_neg m3 (Ev.now _)
theorem implRead_full {s : ByteArray} (hs : s.size ≤ 400) {out : List S67} {a : Nat} (ha : a < s.size) (hl : out.length = 40) : Ev (fun k => impl_ReadItems.l0 k s out (a : Int)) ([], false) := by
  have c1 : (a : Int) < (s.size : Int) := by omega
  have c2 : ((out.length : Int) == 40) = true := by simp; omega
  have fin : ∀ p q e, Ev (fun k => impl_ReadItems.j1 k s out p q e true) ([], false) := fun p q e => by
    refine Ev.step (fun k => by rw [impl_ReadItems.j1]) ?_
    exact Ev.ite_pos rfl (Ev.now _)
  refine Ev.step (fun k => by rw [impl_ReadItems.l0]) ?_
  refine Ev.ite_pos c1 (Ev.bind (implTakeHead (by omega) a ha) ?_)
  rw [c2]
  exact Ev.ite (fun _ => fin _ _ _) fun _ => fin _ _ _
theorem implRead_step {s : ByteArray} (hs : s.size ≤ 400) {out : List S67} {a : Nat} (ha : a < s.size) (hl : out.length < 40) {r : List S67 × Bool}
    (h0 : stepAt s a = none → r = ([], false)) (h1 : ∀ x e, stepAt s a = some (x, e) → Ev (fun k => impl_ReadItems.l0 k s (out ++ [x]) e) r) : Ev (fun k => impl_ReadItems.l0 k s out (a : Int)) r := by
  have c1 : (a : Int) < (s.size : Int) := by omega
  have c2 : ((out.length : Int) == 40) = false := by simp; omega
  have c3 : out.length < 3518437208883 := by omega
  refine Ev.step (fun k => by rw [impl_ReadItems.l0]) ?_
  refine Ev.ite_pos c1 (Ev.bind (implTakeHead (by omega) a ha) ?_)
  unfold stepAt at h0 h1
  rcases headAt_cases s a with e0 | ⟨m, n, b, e0, e1, e2, e3, e4, e5⟩
  · rw [e0] at h0 h1 ⊢
    rw [h0 (by simp [stepOf])]
    refine Ev.ite_neg (by decide) ?_
    refine Ev.step (fun k => by rw [impl_ReadItems.j1]) ?_
    exact Ev.ite_pos rfl (Ev.now _)
  · rw [e0] at h0 h1 ⊢
    unfold stepOf at h0 h1
    rw [c2]
    refine Ev.ite_pos rfl ?_
    refine Ev.step (fun k => by rw [impl_ReadItems.j1]) ?_
    refine Ev.ite_neg (by decide) ?_
    simp only [if_true] at h0 h1 ⊢
    by_cases m0 : (m : Int) = 0
    · rw [if_pos m0] at h0 h1
      exact Ev.ite_pos m0 (Ev.ite_pos c3 (h1 _ _ rfl))
    · rw [if_neg m0] at h0 h1
      refine Ev.ite_neg m0 ?_
      have ws : wrap64 ((s.size : Int) - (b : Int)) = (s.size : Int) - (b : Int) := w64 (by omega) (by omega)
      by_cases m2 : (m : Int) = 2 ∨ (m : Int) = 3
      · have m4 : ¬ (m : Int) = 4 := by omega
        rw [if_neg m4, if_pos m2] at h0 h1
        have txt : Ev (fun k => impl_ReadItems.j2 k s out (b : Int) (m : Int) (n : Int) (m : Int) true) r := by
          refine Ev.step (fun k => by rw [impl_ReadItems.j2]) ?_
          refine Ev.ite_pos rfl ?_
          rw [ws]
          by_cases hn : (n : Int) ≤ (s.size : Int) - (b : Int)
          · rw [if_pos hn] at h0 h1
            have wb : wrap64 ((b : Int) + (n : Int)) = (b : Int) + (n : Int) := w64 (by omega) (by omega)
            rw [wb]
            exact Ev.ite_neg (by omega) (Ev.ite_pos (by omega) (Ev.ite_pos (by omega) (Ev.ite_pos (by omega) (Ev.ite_pos c3 (h1 _ _ rfl)))))
          · rw [if_neg hn] at h0 h1
            rw [h0 rfl]
            exact Ev.ite_pos (by omega) (Ev.now _)
        rcases m2 with m2 | m2
        · rw [show ((m : Int) == 2) = true by rw [m2]; rfl]
          exact Ev.ite_pos m2 txt
        · rw [show ((m : Int) == 3) = true by rw [m2]; rfl]
          exact Ev.ite_neg (by omega) txt
      · rw [show ((m : Int) == 2) = false by simp; omega, show ((m : Int) == 3) = false by simp; omega]
        refine Ev.ite_neg (by omega) ?_
        refine Ev.step (fun k => by rw [impl_ReadItems.j2]) ?_
        refine Ev.ite_neg (by decide) ?_
        by_cases m4 : (m : Int) = 4
        · rw [if_pos m4] at h0 h1
          exact Ev.ite_pos m4 (Ev.ite_pos c3 (h1 _ _ rfl))
        · rw [if_neg m4, if_neg m2] at h0
          rw [h0 rfl]
          exact Ev.ite_neg m4 (Ev.now _)
def Small (l : List S67) : Prop := ∀ x ∈ l, x.f2.size ≤ 4611686018427387904 ∧ x.f3 ≤ 9223372036854775807
theorem Small.at {l : List S67} (h : Small l) : (∀ a : Nat, a < l.length → (rd_T67 l (a : Int)).f2.size ≤ 4611686018427387904) ∧ (∀ a : Nat, a < l.length → (rd_T67 l (a : Int)).f3 ≤ 9223372036854775807) := by
  constructor <;> intro a ha <;> rw [rdT_eq l a ha]
  · exact (h _ (List.getElem_mem ha)).1
  · exact (h _ (List.getElem_mem ha)).2
theorem Small.snoc {l : List S67} (h : Small l) {x : S67} (h1 : x.f2.size ≤ 4611686018427387904) (h2 : x.f3 ≤ 9223372036854775807) : Small (l ++ [x]) := by
  intro y hy
  rcases List.mem_append.mp hy with hy | hy
  · exact h y hy
  · rw [List.mem_singleton.mp hy]; exact ⟨h1, h2⟩
theorem specRead_end {s : ByteArray} {out : List S67} {a : Int} (hl : out.length ≤ 1048576) (hsm : Small out) (h : ¬ a < (s.size : Int) ∨ ¬ (out.length : Int) ≤ 40) {v : List S67 × Bool}
    (hv : ∀ b : Bool, Ev (fun k => spec_GoodItems.f k out) b → Ev (fun k => impl_GoodItems.f k out) b → (b = true → Ev (fun k => spec_l2Bytes.f k out) (itemsText out) ∧ out.length ≤ 40) → v = if b = true ∧ (itemsText out).toList = s.toList then (out, true) else ([], false)) :
    Ev (fun k => spec_ReadItems.l0 k s out a) v := by
  obtain ⟨b, x, y, z⟩ := goodItems_both out hl hsm.at.1 hsm.at.2
  have zb : b = true → Ev (fun k => spec_l2Bytes.f k out) (itemsText out) ∧ out.length ≤ 40 := fun hb => ⟨(bytes_both out hl (z hb).1).1, (z hb).2.2.2.1⟩
  have hvb := hv b x y zb
  have fin : Ev (fun k => spec_ReadItems.j1 k s out a false) v := by
    refine Ev.step (fun k => by rw [spec_ReadItems.j1]) ?_
    refine Ev.ite_neg (by decide) (Ev.bind x ?_)
    cases b with
    | false =>
      rw [if_neg (by simp)] at hvb
      rw [hvb]
      exact Ev.ite_neg (by decide) (Ev.now _)
    | true =>
      refine Ev.ite_pos rfl (Ev.bind (zb rfl).1 ?_)
      by_cases ht : (itemsText out).toList = s.toList
      · rw [if_pos ⟨rfl, ht⟩] at hvb
        rw [hvb]
        exact Ev.ite_pos ht (Ev.now _)
      · rw [if_neg (fun hh => ht hh.2)] at hvb
        rw [hvb]
        exact Ev.ite_neg ht (Ev.now _)
  refine Ev.step (fun k => by rw [spec_ReadItems.l0]) ?_
  by_cases ha : a < (s.size : Int)
  · rw [decide_eq_false (h.resolve_left (fun hh => hh ha))]
    exact Ev.ite_pos ha fin
  · exact Ev.ite_neg ha fin
theorem readItems_go {s : ByteArray} (hs : s.size ≤ 400) (d : Nat) : ∀ (out : List S67) (a : Nat), s.size - a ≤ d → a ≤ s.size → out.length ≤ 40 → Small out → itemsText out = s.extract 0 a →
    ∃ v : List S67 × Bool, Ev (fun k => spec_ReadItems.l0 k s out (a : Int)) v ∧ Ev (fun k => impl_ReadItems.l0 k s out (a : Int)) v ∧ (v = ([], false) ∨ v.2 = true ∧ v.1.length ≤ 40 ∧ Small v.1 ∧ Ev (fun k => spec_GoodItems.f k v.1) true ∧ itemsText v.1 = s) := by
  have atEnd : ∀ (out : List S67), out.length ≤ 40 → Small out → itemsText out = s.extract 0 s.size →
      ∃ v : List S67 × Bool, Ev (fun k => spec_ReadItems.l0 k s out (s.size : Int)) v ∧ Ev (fun k => impl_ReadItems.l0 k s out (s.size : Int)) v ∧ (v = ([], false) ∨ v.2 = true ∧ v.1.length ≤ 40 ∧ Small v.1 ∧ Ev (fun k => spec_GoodItems.f k v.1) true ∧ itemsText v.1 = s) := by
    intro out hl hsm ht
    have hts : itemsText out = s := by rw [ht]; exact ByteArray.extract_zero_size
    obtain ⟨b, x, y, z⟩ := goodItems_both out (by omega) hsm.at.1 hsm.at.2
    refine ⟨if b = true ∧ (itemsText out).toList = s.toList then (out, true) else ([], false), specRead_end (by omega) hsm (.inl (by omega)) (fun b' x' _ _ => by rw [Ev.uniq x' x]), ?_, ?_⟩
    · refine Ev.step (fun k => by rw [impl_ReadItems.l0]) ?_
      refine Ev.ite_neg (by omega) (Ev.bind y ?_)
      cases b with
      | false =>
        rw [if_neg (show ¬ (false = true ∧ (itemsText out).toList = s.toList) from fun h => by cases h.1)]
        exact Ev.ite_neg Bool.false_ne_true (Ev.now _)
      | true =>
        rw [if_pos (show true = true ∧ (itemsText out).toList = s.toList from ⟨rfl, by rw [hts]⟩)]
        exact Ev.ite_pos rfl (Ev.now _)
    · cases b with
      | false => rw [if_neg (show ¬ (false = true ∧ (itemsText out).toList = s.toList) from fun h => by cases h.1)]; exact .inl rfl
      | true => rw [if_pos (show true = true ∧ (itemsText out).toList = s.toList from ⟨rfl, by rw [hts]⟩)]; exact .inr ⟨rfl, hl, hsm, x, hts⟩
  induction d with
  | zero =>
    intro out a h0 h1 h2 h3 h4
    obtain rfl : a = s.size := by omega
    exact atEnd out h2 h3 h4
  | succ d ih =>
    intro out a h0 h1 h2 h3 h4
    by_cases ha : a < s.size
    · cases hst : stepAt s a with
      | none =>
        refine ⟨([], false), specRead_step hs ha h2 (fun _ => rfl) (fun x e h => by rw [hst] at h; cases h), ?_, .inl rfl⟩
        by_cases hl : out.length = 40
        · exact implRead_full hs ha hl
        · exact implRead_step hs ha (by omega) (fun _ => rfl) (fun x e h => by rw [hst] at h; cases h)
      | some q =>
        obtain ⟨x, e⟩ := q
        obtain ⟨b, rfl, g1, g2, g3, g4, g5⟩ := stepAt_some hst
        have sm : Small (out ++ [x]) := h3.snoc (by omega) (by omega)
        have ln : (out ++ [x]).length = out.length + 1 := by simp
        have tx : itemsText (out ++ [x]) = s.extract 0 b := by
          rw [itemsText_append, h4]
          simp only [itemsText, append_empty]
          rw [g3]
          exact extract_join s 0 a b (by omega) (by omega)
        by_cases hl : out.length = 40
        · refine ⟨([], false), specRead_step hs ha h2 (fun _ => rfl) (fun x' e' h => ?_), implRead_full hs ha hl, .inl rfl⟩
          rw [hst] at h
          injection h with h
          injection h with hx he
          subst hx; subst he
          refine specRead_end (by omega) sm (.inr (by omega)) (fun b' _ _ z => ?_)
          rw [if_neg (fun hh => by have := (z hh.1).2; omega)]
        · obtain ⟨v, v1, v2, v3⟩ := ih (out ++ [x]) b (by omega) g2 (by omega) sm tx
          refine ⟨v, specRead_step hs ha h2 (fun h => by rw [hst] at h; cases h) (fun x' e' h => ?_), implRead_step hs ha (by omega) (fun h => by rw [hst] at h; cases h) (fun x' e' h => ?_), v3⟩
          · rw [hst] at h
            injection h with h
            injection h with hx he
            subst hx; subst he
            exact v1
          · rw [hst] at h
            injection h with h
            injection h with hx he
            subst hx; subst he
            exact v2
    · obtain rfl : a = s.size := by omega
      exact atEnd out h2 h3 h4
theorem readItems_both (s : ByteArray) : ∃ v : List S67 × Bool, Ev (fun k => spec_ReadItems.f k s) v ∧ Ev (fun k => impl_ReadItems.f k s) v ∧ (v = ([], false) ∨ v.2 = true ∧ v.1.length ≤ 40 ∧ Small v.1 ∧ Ev (fun k => spec_GoodItems.f k v.1) true ∧ itemsText v.1 = s) := by
  simp only [spec_ReadItems.f, impl_ReadItems.f]
  by_cases h : (s.size : Int) > 400
  · exact ⟨([], false), Ev.ite_pos h (Ev.now _), Ev.ite_pos h (Ev.now _), .inl rfl⟩
  · obtain ⟨v, a, b, c⟩ := readItems_go (s := s) (by omega) s.size [] 0 (by omega) (by omega) (by simp) (fun x hx => by cases hx) (by simp only [itemsText]; rw [ByteArray.extract_same]; rfl)
    exact ⟨v, Ev.ite_neg h a, Ev.ite_neg h b, c⟩
theorem mid_extract (P Q R : ByteArray) : (P ++ (Q ++ R)).extract P.size (P.size + Q.size) = Q := by
  apply str_ext
  obtain ⟨p⟩ := P
  obtain ⟨q⟩ := Q
  obtain ⟨r⟩ := R
  rw [ByteArray.data_extract, ByteArray.data_append, ByteArray.data_append]
  show ((p ++ (q ++ r)).extract p.size (p.size + q.size)).toList = q.toList
  rw [Array.toList_extract]
  simp [List.extract, List.drop_append, List.take_append]
theorem headAt_mid (P R : ByteArray) (m n : Nat) (hm : m ≤ 7) (hn : n ≤ 1000000000) :
    headAt (P ++ (headText m n ++ R)) P.size = ((m : Int), (n : Int), ((P.size + (headText m n).size : Nat) : Int), true) := by
  refine headAt_text _ _ _ _ hm hn ?_ (mid_extract P _ R)
  rw [ByteArray.size_append, ByteArray.size_append]; omega
theorem empty_of_size {s : ByteArray} (h : s.size = 0) : s = (⟨#[]⟩ : ByteArray) := by
  apply str_ext
  rw [show s.data.toList = [] from List.length_eq_zero_iff.mp h]
theorem itemText_pos (f0 f1 : Int) (f2 : ByteArray) (f3 : Int) : 1 ≤ (itemText f0 f1 f2 f3).size := by
  have := headText_size 0 f1
  have := headText_size 2 (f2.size : Int)
  have := headText_size 3 (f2.size : Int)
  have := headText_size 4 f3
  unfold itemText
  split
  · omega
  · split
    · rw [ByteArray.size_append]; omega
    · split
      · rw [ByteArray.size_append]; omega
      · omega
theorem stepAt_fwd (P R : ByteArray) (x : S67) (h : OkItem x.f0 x.f1 x.f2 x.f3) :
    stepAt (P ++ (itemText x.f0 x.f1 x.f2 x.f3 ++ R)) P.size = some (x, ((P.size + (itemText x.f0 x.f1 x.f2 x.f3).size : Nat) : Int)) := by
  obtain ⟨f0, f1, f2, f3⟩ := x
  simp only at h ⊢
  unfold stepAt
  rcases h with ⟨rfl, a0, a1, a2, rfl⟩ | ⟨rfl, a0, rfl, rfl⟩ | ⟨rfl, _, a0, rfl, rfl⟩ | ⟨rfl, a0, a1, rfl, a2⟩
  · obtain ⟨n, rfl⟩ := Int.eq_ofNat_of_zero_le a0
    obtain rfl := empty_of_size a2
    have e : itemText 1 (n : Int) (⟨#[]⟩ : ByteArray) 0 = headText ((0 : Nat) : Int) (n : Int) := by unfold itemText; rw [if_pos rfl]; rfl
    rw [e, headAt_mid P R 0 n (by omega) (by omega)]
    simp [stepOf]
  · have e : itemText 2 0 f2 0 = headText ((2 : Nat) : Int) (f2.size : Int) ++ f2 := by unfold itemText; rw [if_neg (by decide), if_pos rfl]; rfl
    rw [e, append_assoc', headAt_mid P (f2 ++ R) 2 f2.size (by omega) (by omega)]
    have z : (P ++ (headText ((2 : Nat) : Int) (f2.size : Int) ++ (f2 ++ R))).extract (P.size + (headText ((2 : Nat) : Int) (f2.size : Int)).size) (P.size + (headText ((2 : Nat) : Int) (f2.size : Int)).size + f2.size) = f2 := by
      rw [← append_assoc' P]
      have := mid_extract (P ++ headText ((2 : Nat) : Int) (f2.size : Int)) f2 R
      rw [ByteArray.size_append] at this
      exact this
    unfold stepOf
    simp only
    rw [if_pos trivial, if_neg (by decide), if_neg (by decide), if_pos (.inl rfl), if_pos (by simp only [ByteArray.size_append]; omega)]
    rw [← Int.natCast_add, Int.toNat_natCast, Int.toNat_natCast, z, ByteArray.size_append]
    simp; omega
  · have e : itemText 3 0 f2 0 = headText ((3 : Nat) : Int) (f2.size : Int) ++ f2 := by unfold itemText; rw [if_neg (by decide), if_neg (by decide), if_pos rfl]; rfl
    rw [e, append_assoc', headAt_mid P (f2 ++ R) 3 f2.size (by omega) (by omega)]
    have z : (P ++ (headText ((3 : Nat) : Int) (f2.size : Int) ++ (f2 ++ R))).extract (P.size + (headText ((3 : Nat) : Int) (f2.size : Int)).size) (P.size + (headText ((3 : Nat) : Int) (f2.size : Int)).size + f2.size) = f2 := by
      rw [← append_assoc' P]
      have := mid_extract (P ++ headText ((3 : Nat) : Int) (f2.size : Int)) f2 R
      rw [ByteArray.size_append] at this
      exact this
    unfold stepOf
    simp only
    rw [if_pos trivial, if_neg (by decide), if_neg (by decide), if_pos (.inr rfl), if_pos (by simp only [ByteArray.size_append]; omega)]
    rw [← Int.natCast_add, Int.toNat_natCast, Int.toNat_natCast, z, ByteArray.size_append]
    simp; omega
  · obtain ⟨n, rfl⟩ := Int.eq_ofNat_of_zero_le a0
    obtain rfl := empty_of_size a2
    have e : itemText 4 0 (⟨#[]⟩ : ByteArray) (n : Int) = headText ((4 : Nat) : Int) (n : Int) := by unfold itemText; rw [if_neg (by decide), if_neg (by decide), if_neg (by decide)]; rfl
    rw [e, headAt_mid P R 4 n (by omega) (by omega)]
    simp [stepOf]
theorem read_fwd (l : List S67) (ok : ∀ x ∈ l, OkItem x.f0 x.f1 x.f2 x.f3) (h40 : l.length ≤ 40) (h400 : (itemsText l).size ≤ 400) (hg : Ev (fun k => impl_GoodItems.f k l) true) :
    ∀ (rest pre : List S67), pre ++ rest = l → Ev (fun k => impl_ReadItems.l0 k (itemsText l) pre ((itemsText pre).size : Int)) (l, true)
  | [], pre, e => by
    rw [List.append_nil] at e
    subst e
    exact Ev.step (fun k => by rw [impl_ReadItems.l0]) (Ev.ite_neg (by omega) (Ev.bind hg (Ev.ite_pos rfl (Ev.now _))))
  | x :: rest, pre, e => by
    have hx : OkItem x.f0 x.f1 x.f2 x.f3 := ok x (by rw [← e]; simp)
    have es : itemsText l = itemsText pre ++ (itemText x.f0 x.f1 x.f2 x.f3 ++ itemsText rest) := by rw [← e, itemsText_append]; rfl
    have en : itemsText (pre ++ [x]) = itemsText pre ++ itemText x.f0 x.f1 x.f2 x.f3 := by
      rw [itemsText_append]
      show itemsText pre ++ (itemText x.f0 x.f1 x.f2 x.f3 ++ (⟨#[]⟩ : ByteArray)) = _
      rw [append_empty]
    have hf := stepAt_fwd (itemsText pre) (itemsText rest) x hx
    rw [← es] at hf
    have hlen : pre.length + 1 ≤ l.length := by rw [← e]; simp
    have hpos : 1 ≤ (itemText x.f0 x.f1 x.f2 x.f3).size := itemText_pos _ _ _ _
    have hsz : (itemsText pre).size < (itemsText l).size := by rw [es, ByteArray.size_append, ByteArray.size_append]; omega
    refine implRead_step h400 hsz (by omega) (fun h => by rw [hf] at h; cases h) (fun y b h => ?_)
    rw [hf] at h
    obtain ⟨rfl, rfl⟩ := Prod.mk.inj (Option.some.inj h)
    have := read_fwd l ok h40 h400 hg rest (pre ++ [x]) (by rw [← e]; simp)
    rw [en, ByteArray.size_append] at this
    exact this
def checked (s : ByteArray) : ByteArray × Bool :=
  if 2 ≤ s.size ∧ s.size ≤ 400 then if withSum (s.extract 0 (s.size - 2)) = s then (s.extract 0 (s.size - 2), true) else (⟨#[]⟩, false) else (⟨#[]⟩, false)
theorem toList_inj {s t : ByteArray} : s.toList = t.toList ↔ s = t := by
  constructor
  · intro h
    rw [ByteArray.toList_eq, ByteArray.toList_eq] at h
    exact str_ext h
  · intro h; rw [h]
theorem specCheck (s : ByteArray) (hs : s.size ≤ 4611686018427387904) : Ev (fun k => spec_CheckCrc.f k s) (checked s) := by
  simp only [spec_CheckCrc.f, specIn, Option.bind_some, checked]
  by_cases h : 2 ≤ s.size ∧ s.size ≤ 400
  · have hw : wrap64 ((s.size : Int) - 2) = ((s.size - 2 : Nat) : Int) := by rw [w64 (by omega) (by omega)]; omega
    have hx : (s.extract 0 (s.size - 2)).size = s.size - 2 := by simp
    simp only [hw, Int.toNat_natCast, show (2 ≤ (s.size : Int) ∧ (s.size : Int) ≤ 400) by omega, and_self, decide_true, if_true, if_pos (show (0 : Int) ≤ ((s.size - 2 : Nat) : Int) by omega), if_pos (show ((s.size - 2 : Nat) : Int) ≤ (s.size : Int) by omega)]
    rw [if_pos h]
    refine Ev.bind (specWith _ (by omega)) ?_
    simp only [toList_inj]
    by_cases e : withSum (s.extract 0 (s.size - 2)) = s
    · simp only [if_pos e]; exact Ev.now _
    · simp only [if_neg e]; exact Ev.now _
  · rw [if_neg h]
    simp only [show ¬ (2 ≤ (s.size : Int) ∧ (s.size : Int) ≤ 400) by omega, decide_false]
    simp
    exact Ev.now _
theorem implCheck (s : ByteArray) (hs : s.size ≤ 4611686018427387904) : Ev (fun k => impl_CheckCrc.f k s) (checked s) := by
  have hw : wrap64 ((s.size : Int) - 2) = (s.size : Int) - 2 := by rw [w64 (by omega) (by omega)]
  simp only [impl_CheckCrc.f, implWithin, Option.bind_some, checked, hw]
  by_cases h : 2 ≤ s.size ∧ s.size ≤ 400
  · have hw2 : (s.size : Int) - 2 = ((s.size - 2 : Nat) : Int) := by omega
    have hx : (s.extract 0 (s.size - 2)).size = s.size - 2 := by simp
    simp only [hw2, Int.toNat_natCast, show ((0 : Int) ≤ ((s.size - 2 : Nat) : Int) ∧ ((s.size - 2 : Nat) : Int) ≤ 398) by omega, and_self, decide_true, if_true, if_pos (show (0 : Int) ≤ ((s.size - 2 : Nat) : Int) by omega), if_pos (show ((s.size - 2 : Nat) : Int) ≤ (s.size : Int) by omega)]
    rw [if_pos h]
    refine Ev.bind (implWith _ (by omega)) ?_
    simp only [toList_inj]
    by_cases e : withSum (s.extract 0 (s.size - 2)) = s
    · simp only [if_pos e]; exact Ev.now _
    · simp only [if_neg e]; exact Ev.now _
  · rw [if_neg h]
    simp only [show ¬ (0 ≤ (s.size : Int) - 2 ∧ (s.size : Int) - 2 ≤ 398) by omega, decide_false]
    simp
    exact Ev.now _
def tl (x : Nat) : List UInt8 := [UInt8.ofNat ((x : Int) / 256 % 256).toNat, UInt8.ofNat ((x : Int) % 256).toNat]
theorem tl_inj {x y : Nat} (hx : x < 65536) (hy : y < 65536) (h : tl x = tl y) : x = y := by
  unfold tl at h
  injection h with h1 h2
  injection h2 with h2 _
  have a := congrArg UInt8.toNat h1
  have b := congrArg UInt8.toNat h2
  simp only [UInt8.toNat_ofNat'] at a b
  omega
theorem withSum_list (u : ByteArray) : (withSum u).data.toList = u.data.toList ++ tl (crcOver 65535 u.data.toList) := by
  unfold withSum
  rw [ByteArray.data_append, Array.toList_append, strOfNums_data]
  rfl
theorem crcOver_append (x : Nat) (a b : List UInt8) : crcOver x (a ++ b) = crcOver (crcOver x a) b := by simp [crcOver]
theorem crcOver_cons (x : Nat) (b : UInt8) (l : List UInt8) : crcOver x (b :: l) = crcOver (crcByte x b.toNat) l := by simp [crcOver]
theorem crcOver_set_inj (U : List UInt8) (j : Nat) (hj : j < U.length) (v : UInt8) (h : crcOver 65535 (U.set j v) = crcOver 65535 U) : v = U[j] := by
  have e1 : U = U.take j ++ (U[j] :: U.drop (j + 1)) := by simp
  have e2 : U.set j v = U.take j ++ (v :: U.drop (j + 1)) := by rw [List.set_eq_take_append_cons_drop, if_pos hj]
  rw [e2] at h
  have h2 : crcOver 65535 (U.take j ++ (v :: U.drop (j + 1))) = crcOver 65535 (U.take j ++ (U[j] :: U.drop (j + 1))) := by rw [h]; exact congrArg _ e1
  rw [crcOver_append, crcOver_append, crcOver_cons, crcOver_cons] at h2
  have c : crcOver 65535 (U.take j) < 65536 := crcOver_lt _ (by omega)
  generalize crcOver 65535 (U.take j) = X at h2 c
  have h3 := crcOver_inj (U.drop (j + 1)) (crcByte_lt c (UInt8.toNat_lt v)) (crcByte_lt c (UInt8.toNat_lt U[j])) h2
  exact UInt8.toNat_inj.mp (crcByte_inj_right c (UInt8.toNat_lt _) (UInt8.toNat_lt _) h3)
theorem list_turned (U V : List UInt8) (j : Nat) (v : UInt8) (hl : V.length = U.length) (hj : j < (U ++ tl (crcOver 65535 U)).length) (hne : v ≠ (U ++ tl (crcOver 65535 U))[j]) (e : V ++ tl (crcOver 65535 V) = (U ++ tl (crcOver 65535 U)).set j v) : False := by
  by_cases c : j < U.length
  · rw [List.set_append_left _ _ c] at e
    obtain ⟨e1, e2⟩ := List.append_inj e (by simp [hl])
    have e3 := tl_inj (crcOver_lt V (by omega)) (crcOver_lt U (by omega)) e2
    rw [e1] at e3
    have := crcOver_set_inj U j c v e3
    rw [List.getElem_append_left c] at hne
    exact hne this
  · rw [List.set_append_right _ _ (by omega)] at e
    obtain ⟨e1, e2⟩ := List.append_inj e hl
    rw [e1] at e2
    rw [List.getElem_append_right (by omega)] at hne
    rw [List.length_append] at hj
    have h2 : j - U.length < (tl (crcOver 65535 U)).length := by omega
    have h3 : ((tl (crcOver 65535 U)).set (j - U.length) v)[j - U.length]'(by rw [List.length_set]; exact h2) = v := List.getElem_set_self _
    have h4 : ∀ (l : List UInt8) (hl : j - U.length < l.length), l = tl (crcOver 65535 U) → l[j - U.length] = (tl (crcOver 65535 U))[j - U.length] := by
      intro l hl e; subst e; rfl
    exact hne (h3.symm.trans (h4 _ (by rw [List.length_set]; exact h2) e2.symm))
theorem bytesOf_set (s : ByteArray) (j : Nat) (b : Int) : (strOfNums ((bytesOf s).set j b)).data.toList = s.data.toList.set j (UInt8.ofNat b.toNat) := by
  rw [strOfNums_data, bytesOf, List.map_set, List.map_map]
  have : ((fun n : Int => UInt8.ofNat n.toNat) ∘ fun b : UInt8 => (b.toNat : Int)) = id := by funext x; simp
  rw [this, List.map_id]
theorem turned_no (u : ByteArray) (j : Nat) (hj : j < (withSum u).size) (b : Int) (hb0 : 0 ≤ b) (hb1 : b < 256) (hne : b ≠ rd (bytesOf (withSum u)) (j : Int)) : (checked (strOfNums ((bytesOf (withSum u)).set j b))).2 = false := by
  unfold checked
  by_cases c : 2 ≤ (strOfNums ((bytesOf (withSum u)).set j b)).size ∧ (strOfNums ((bytesOf (withSum u)).set j b)).size ≤ 400
  case neg => rw [if_neg c]
  rw [if_pos c]
  by_cases e : withSum ((strOfNums ((bytesOf (withSum u)).set j b)).extract 0 ((strOfNums ((bytesOf (withSum u)).set j b)).size - 2)) = strOfNums ((bytesOf (withSum u)).set j b)
  case neg => rw [if_neg e]
  exfalso
  have hz : (strOfNums ((bytesOf (withSum u)).set j b)).size = u.size + 2 := by
    rw [strOfNums_size, List.length_set, bytesOf_length, withSum, ByteArray.size_append, strOfNums_size]; rfl
  have e1 := congrArg (fun s : ByteArray => s.data.toList) e
  rw [withSum_list, bytesOf_set, withSum_list] at e1
  have hj' : j < (u.data.toList ++ tl (crcOver 65535 u.data.toList)).length := by rw [← withSum_list]; exact hj
  refine list_turned u.data.toList _ j (UInt8.ofNat b.toNat) ?_ hj' ?_ e1
  · rw [size_data, size_data, ByteArray.size_extract]; omega
  · intro h
    apply hne
    have h2 : j < (bytesOf (withSum u)).length := by rw [bytesOf_length]; exact hj
    rw [rd_eq _ j h2]
    have h3 : (withSum u).data.toList[j]'(by rw [withSum_list]; exact hj') = UInt8.ofNat b.toNat := by
      rw [h]; congr 1
    simp only [bytesOf, List.getElem_map]
    rw [h3, UInt8.toNat_ofNat']
    omega
theorem checked_fwd (u : ByteArray) (hu : u.size ≤ 398) : checked (withSum u) = (u, true) := by
  have hz : (withSum u).size = u.size + 2 := by rw [withSum, ByteArray.size_append, strOfNums_size]; rfl
  have hx : (withSum u).extract 0 ((withSum u).size - 2) = u := by
    apply str_ext
    rw [hz, ByteArray.data_extract, Array.toList_extract, withSum_list]
    have : u.data.toList.length = u.size := size_data u
    simp only [List.extract, List.drop_zero, Nat.sub_zero, Nat.add_sub_cancel]
    rw [← this]
    exact List.take_left
  unfold checked
  rw [if_pos (by omega), hx, if_pos rfl]
theorem bundleItems_value {a0 a1 : Int} {a2 : Bool} {a3 a4 a5 a6 a7 a8 : Int} {a9 : ByteArray} (h : GoodP a0 a1 a3 a4 a5 a6 a7 a8 a9.size) :
    Ev (fun k => impl_GoodItems.f k (bundleItems a0 a1 a2 a3 a4 a5 a6 a7 a8 a9)) true := by
  have ok := bundleItems_ok (a2 := a2) h
  have h60 : a9.size ≤ 60 := by unfold GoodP at h; omega
  have h400 := bundleText_size (a0 := a0) (a1 := a1) (a2 := a2) (a3 := a3) (a4 := a4) (a5 := a5) (a6 := a6) (a7 := a7) (a8 := a8) h60
  have hl := bundleItems_len a0 a1 a2 a3 a4 a5 a6 a7 a8 a9
  have f : ∀ a : Nat, 1 ≤ a → a < 11 → (rd_T67 (bundleItems a0 a1 a2 a3 a4 a5 a6 a7 a8 a9) (a : Int)).f0 ≠ 4 ∧ (rd_T67 (bundleItems a0 a1 a2 a3 a4 a5 a6 a7 a8 a9) (a : Int)).f2.size ≤ 4611686018427387904 := by
    intro a h1 h2
    rcases (by omega : a = 1 ∨ a = 2 ∨ a = 3 ∨ a = 4 ∨ a = 5 ∨ a = 6 ∨ a = 7 ∨ a = 8 ∨ a = 9 ∨ a = 10) with rfl | rfl | rfl | rfl | rfl | rfl | rfl | rfl | rfl | rfl
    all_goals first
      | exact ⟨show (1 : Int) ≠ 4 by decide, show (0 : Nat) ≤ 4611686018427387904 by decide⟩
      | exact ⟨show (2 : Int) ≠ 4 by decide, show a9.size ≤ 4611686018427387904 by omega⟩
  generalize hL : bundleItems a0 a1 a2 a3 a4 a5 a6 a7 a8 a9 = L at ok h400 hl f ⊢
  have h0 : rd_T67 L ((0 : Nat) : Int) = ⟨4, 0, (⟨#[]⟩ : ByteArray), 10⟩ := by rw [← hL]; rfl
  have one : ∀ a : Nat, 1 ≤ a → a < 11 → Ev (fun k => impl_value.f k L (a : Int)) (((a + 1 : Nat) : Int), ((0 : Nat) : Int)) := by
    intro a h1 h2
    have := implValue_one L (a := a) (by omega) (by omega) (f a h1 h2).2 (ok a (by omega)) (f a h1 h2).1
    simpa using this
  have loop : ∀ d j : Nat, d + j = 10 → Ev (fun k => impl_value.l0 k L ((1 + j : Nat) : Int) ((0 : Nat) : Int) 10 (j : Int)) (11, 1) := by
    intro d
    induction d with
    | zero =>
      intro j hj
      obtain rfl : j = 10 := by omega
      exact implLoop_end L (a := 11) (x := 0) (by omega) (by omega)
    | succ d ih =>
      intro j hj
      have n := ih (j + 1) (by omega)
      refine implLoop_next L (by omega) (a := 1 + j) (x := 0) (e := 1 + (j + 1)) (d := 0) (by omega) (by omega) ?_ ?_
      · have := one (1 + j) (by omega) (by omega)
        rw [show 1 + j + 1 = 1 + (j + 1) by omega] at this
        exact this
      · rw [show ((j : Int) + 1) = ((j + 1 : Nat) : Int) by omega]
        exact n
  have v : Ev (fun k => impl_value.f k L 0) (11, 1) := by
    have hk := ok 0 (by omega)
    have := implValue_list L (a := 0) (by omega) (by omega) (by rw [h0]; decide) hk (by rw [h0]) (q := (11, 1)) (by rw [h0]; exact loop 10 0 (by omega))
    exact this
  simp only [impl_GoodItems.f, implWithin, Option.bind_some]
  refine Ev.ite_pos (decide_eq_true (by omega)) (Ev.bind v (Ev.ite_pos (by simp only; omega) (Ev.ite_pos (by simp only; omega) (Ev.bind (bytes_both L (by omega) ok).2 (Ev.now' (decide_eq_true (by omega)))))))
theorem withSum_size (u : ByteArray) : (withSum u).size = u.size + 2 := by rw [withSum, ByteArray.size_append, strOfNums_size]; rfl
theorem readBundle_fwd {a0 a1 : Int} {a2 : Bool} {a3 a4 a5 a6 a7 a8 : Int} {a9 : ByteArray} (h : GoodP a0 a1 a3 a4 a5 a6 a7 a8 a9.size) :
    Ev (fun k => impl_ReadBundle.f k (bundleText a0 a1 a2 a3 a4 a5 a6 a7 a8 a9)) (a0, a1, a2, a3, a4, a5, a6, a7, a8, a9, true) := by
  have h60 : a9.size ≤ 60 := by unfold GoodP at h; omega
  have h398 := bundleText_size (a0 := a0) (a1 := a1) (a2 := a2) (a3 := a3) (a4 := a4) (a5 := a5) (a6 := a6) (a7 := a7) (a8 := a8) h60
  have hl := bundleItems_len a0 a1 a2 a3 a4 a5 a6 a7 a8 a9
  have ok := bundleItems_ok (a2 := a2) h
  have g := bundleItems_value (a2 := a2) h
  have hz : (bundleText a0 a1 a2 a3 a4 a5 a6 a7 a8 a9).size ≤ 400 := by unfold bundleText; rw [withSum_size]; omega
  have ck : Ev (fun k => impl_CheckCrc.f k (bundleText a0 a1 a2 a3 a4 a5 a6 a7 a8 a9)) (itemsText (bundleItems a0 a1 a2 a3 a4 a5 a6 a7 a8 a9), true) := by
    have := implCheck (bundleText a0 a1 a2 a3 a4 a5 a6 a7 a8 a9) (by omega)
    rw [show checked (bundleText a0 a1 a2 a3 a4 a5 a6 a7 a8 a9) = _ from checked_fwd _ h398] at this
    exact this
  have ok' : ∀ x ∈ bundleItems a0 a1 a2 a3 a4 a5 a6 a7 a8 a9, OkItem x.f0 x.f1 x.f2 x.f3 := fun x hx => by
    obtain ⟨i, hi, rfl⟩ := List.mem_iff_getElem.mp hx
    have := ok i hi
    unfold OkAt at this
    rw [rdT_eq _ i hi] at this
    exact this
  have rd_ : Ev (fun k => impl_ReadItems.f k (itemsText (bundleItems a0 a1 a2 a3 a4 a5 a6 a7 a8 a9))) (bundleItems a0 a1 a2 a3 a4 a5 a6 a7 a8 a9, true) := by
    simp only [impl_ReadItems.f]
    exact Ev.ite_neg (by omega) (read_fwd _ ok' (by omega) (by omega) g _ [] rfl)
  have hb : -9223372036854775808 ≤ a8 ∧ a8 ≤ 9223372036854775807 := by unfold GoodP at h; omega
  have it := (implBundle_val a0 a1 a2 a3 a4 a5 a6 a7 a8 a9 hb).1 h
  have r1 : rd_T67 (bundleItems a0 a1 a2 a3 a4 a5 a6 a7 a8 a9) 1 = ⟨1, a0, (⟨#[]⟩ : ByteArray), 0⟩ := rfl
  have r2 : rd_T67 (bundleItems a0 a1 a2 a3 a4 a5 a6 a7 a8 a9) 2 = ⟨1, a1, (⟨#[]⟩ : ByteArray), 0⟩ := rfl
  have r3 : rd_T67 (bundleItems a0 a1 a2 a3 a4 a5 a6 a7 a8 a9) 3 = ⟨1, if a2 = true then 1 else 0, (⟨#[]⟩ : ByteArray), 0⟩ := rfl
  have r4 : rd_T67 (bundleItems a0 a1 a2 a3 a4 a5 a6 a7 a8 a9) 4 = ⟨1, a3, (⟨#[]⟩ : ByteArray), 0⟩ := rfl
  have r5 : rd_T67 (bundleItems a0 a1 a2 a3 a4 a5 a6 a7 a8 a9) 5 = ⟨1, a4, (⟨#[]⟩ : ByteArray), 0⟩ := rfl
  have r6 : rd_T67 (bundleItems a0 a1 a2 a3 a4 a5 a6 a7 a8 a9) 6 = ⟨1, a5, (⟨#[]⟩ : ByteArray), 0⟩ := rfl
  have r7 : rd_T67 (bundleItems a0 a1 a2 a3 a4 a5 a6 a7 a8 a9) 7 = ⟨1, a6, (⟨#[]⟩ : ByteArray), 0⟩ := rfl
  have r8 : rd_T67 (bundleItems a0 a1 a2 a3 a4 a5 a6 a7 a8 a9) 8 = ⟨1, a7, (⟨#[]⟩ : ByteArray), 0⟩ := rfl
  have r9 : rd_T67 (bundleItems a0 a1 a2 a3 a4 a5 a6 a7 a8 a9) 9 = ⟨1, a8, (⟨#[]⟩ : ByteArray), 0⟩ := rfl
  have r10 : rd_T67 (bundleItems a0 a1 a2 a3 a4 a5 a6 a7 a8 a9) 10 = ⟨2, 0, a9, 0⟩ := rfl
  have g2 : ((if a2 = true then (1 : Int) else 0) == 1) = a2 := by cases a2 <;> rfl
  have e : (((bundleItems a0 a1 a2 a3 a4 a5 a6 a7 a8 a9).length : Int) != 11) = false := by rw [hl]; rfl
  generalize bundleItems a0 a1 a2 a3 a4 a5 a6 a7 a8 a9 = L at *
  generalize bundleText a0 a1 a2 a3 a4 a5 a6 a7 a8 a9 = T at *
  simp only [impl_ReadBundle.f]
  refine Ev.bind ck (Ev.bind rd_ (Ev.ite_pos rfl (Ev.ite_pos rfl ?_)))
  rw [e]
  refine Ev.step (fun k => by rw [impl_ReadBundle.j0]) ?_
  simp only [r1, r2, r3, r4, r5, r6, r7, r8, r9, r10, g2]
  exact Ev.ite_neg (by decide) (Ev.ite_pos (by omega) (Ev.ite_pos (by omega) (Ev.ite_pos (by omega) (Ev.ite_pos (by omega) (Ev.ite_pos (by omega) (Ev.ite_pos (by omega) (Ev.ite_pos (by omega) (Ev.ite_pos (by omega) (Ev.ite_pos (by omega) (Ev.ite_pos (by omega) (Ev.bind it (Ev.ite_pos rfl (Ev.ite_pos rfl (Ev.now _))))))))))))))
theorem readBundle_told (s : ByteArray) (hs : s.size ≤ 4611686018427387904) : ∃ (b0 b1 : Int) (b2 : Bool) (b3 b4 b5 b6 b7 b8 : Int) (b9 : ByteArray) (ok : Bool), Ev (fun k => spec_ReadBundle.f k s) (b0, b1, b2, b3, b4, b5, b6, b7, b8, b9, ok) ∧ Ev (fun k => impl_ReadBundle.f k s) (b0, b1, b2, b3, b4, b5, b6, b7, b8, b9, ok) ∧
    (ok = true → GoodP b0 b1 b3 b4 b5 b6 b7 b8 b9.size ∧ bundleText b0 b1 b2 b3 b4 b5 b6 b7 b8 b9 = s ∧ (checked s).2 = true) ∧ -9223372036854775808 ≤ b8 ∧ b8 ≤ 9223372036854775807 := by
  have zero : ∀ {P : Prop}, ((false : Bool) = true → P) ∧ -9223372036854775808 ≤ (0 : Int) ∧ (0 : Int) ≤ 9223372036854775807 := fun {P} => ⟨fun h => (by cases h), by omega, by omega⟩
  obtain ⟨v, x, y, z⟩ := readItems_both (checked s).1
  have noS : Ev (fun k => spec_ReadBundle.j0 k s v.1 true) (0, 0, false, 0, 0, 0, 0, 0, 0, (⟨#[]⟩ : ByteArray), false) := Ev.step (fun k => by rw [spec_ReadBundle.j0]) (Ev.ite_pos rfl (Ev.now _))
  have noI : Ev (fun k => impl_ReadBundle.j0 k s v.1 true) (0, 0, false, 0, 0, 0, 0, 0, 0, (⟨#[]⟩ : ByteArray), false) := Ev.step (fun k => by rw [impl_ReadBundle.j0]) (Ev.ite_pos rfl (Ev.now _))
  simp only [spec_ReadBundle.f, impl_ReadBundle.f]
  have cs := specCheck s hs
  have ci := implCheck s hs
  by_cases h1 : (checked s).2 = true
  case neg => exact ⟨_, _, _, _, _, _, _, _, _, _, _, Ev.bind cs (Ev.bind x (Ev.ite_neg h1 noS)), Ev.bind ci (Ev.bind y (Ev.ite_neg h1 noI)), zero⟩
  by_cases h2 : v.2 = true
  case neg => exact ⟨_, _, _, _, _, _, _, _, _, _, _, Ev.bind cs (Ev.bind x (Ev.ite_pos h1 (Ev.ite_neg h2 noS))), Ev.bind ci (Ev.bind y (Ev.ite_pos h1 (Ev.ite_neg h2 noI))), zero⟩
  by_cases h3 : v.1.length = 11
  case neg =>
    have e : ((v.1.length : Int) != 11) = true := by simp; omega
    exact ⟨_, _, _, _, _, _, _, _, _, _, _, Ev.bind cs (Ev.bind x (Ev.ite_pos h1 (Ev.ite_pos h2 (by rw [e]; exact noS)))), Ev.bind ci (Ev.bind y (Ev.ite_pos h1 (Ev.ite_pos h2 (by rw [e]; exact noI)))), zero⟩
  have e : ((v.1.length : Int) != 11) = false := by simp; omega
  have z' : v.1.length ≤ 40 ∧ Small v.1 ∧ Ev (fun k => spec_GoodItems.f k v.1) true := by
    rcases z with z | ⟨_, a, b, c, _⟩
    · rw [z] at h2; exact absurd h2 (by simp)
    · exact ⟨a, b, c⟩
  obtain ⟨z1, z2, z3⟩ := z'
  obtain ⟨b, g1, _, g3⟩ := goodItems_both v.1 (by omega) z2.at.1 z2.at.2
  obtain rfl := Ev.uniq g1 z3
  have ok9 := (g3 rfl).1 9 (by omega)
  have hb : -9223372036854775808 ≤ (rd_T67 v.1 9).f1 ∧ (rd_T67 v.1 9).f1 ≤ 9223372036854775807 := by
    have q : (((9 : Nat) : Int)) = 9 := rfl
    unfold OkAt OkItem at ok9
    rw [q] at ok9
    omega
  have c1 : 1 < (v.1.length : Int) := by omega
  have c2 : 2 < (v.1.length : Int) := by omega
  have c3 : 3 < (v.1.length : Int) := by omega
  have c4 : 4 < (v.1.length : Int) := by omega
  have c5 : 5 < (v.1.length : Int) := by omega
  have c6 : 6 < (v.1.length : Int) := by omega
  have c7 : 7 < (v.1.length : Int) := by omega
  have c8 : 8 < (v.1.length : Int) := by omega
  have c9 : 9 < (v.1.length : Int) := by omega
  have c10 : 10 < (v.1.length : Int) := by omega
  suffices H : ∃ (b0 b1 : Int) (b2 : Bool) (b3 b4 b5 b6 b7 b8 : Int) (b9 : ByteArray) (ok : Bool), Ev (fun k => spec_ReadBundle.j0 k s v.1 false) (b0, b1, b2, b3, b4, b5, b6, b7, b8, b9, ok) ∧ Ev (fun k => impl_ReadBundle.j0 k s v.1 false) (b0, b1, b2, b3, b4, b5, b6, b7, b8, b9, ok) ∧
      (ok = true → GoodP b0 b1 b3 b4 b5 b6 b7 b8 b9.size ∧ bundleText b0 b1 b2 b3 b4 b5 b6 b7 b8 b9 = s ∧ (checked s).2 = true) ∧ -9223372036854775808 ≤ b8 ∧ b8 ≤ 9223372036854775807 by
    obtain ⟨b0, b1, b2, b3, b4, b5, b6, b7, b8, b9, ok, p, q, r⟩ := H
    exact ⟨b0, b1, b2, b3, b4, b5, b6, b7, b8, b9, ok, Ev.bind cs (Ev.bind x (Ev.ite_pos h1 (Ev.ite_pos h2 (by rw [e]; exact p)))), Ev.bind ci (Ev.bind y (Ev.ite_pos h1 (Ev.ite_pos h2 (by rw [e]; exact q)))), r⟩
  obtain ⟨i1, i2⟩ := implBundle_val (rd_T67 v.1 1).f1 (rd_T67 v.1 2).f1 ((rd_T67 v.1 3).f1 == 1) (rd_T67 v.1 4).f1 (rd_T67 v.1 5).f1 (rd_T67 v.1 6).f1 (rd_T67 v.1 7).f1 (rd_T67 v.1 8).f1 (rd_T67 v.1 9).f1 (rd_T67 v.1 10).f2 hb
  have sg := specGood (rd_T67 v.1 1).f1 (rd_T67 v.1 2).f1 ((rd_T67 v.1 3).f1 == 1) (rd_T67 v.1 4).f1 (rd_T67 v.1 5).f1 (rd_T67 v.1 6).f1 (rd_T67 v.1 7).f1 (rd_T67 v.1 8).f1 (rd_T67 v.1 9).f1 (rd_T67 v.1 10).f2
  by_cases hg : GoodP (rd_T67 v.1 1).f1 (rd_T67 v.1 2).f1 (rd_T67 v.1 4).f1 (rd_T67 v.1 5).f1 (rd_T67 v.1 6).f1 (rd_T67 v.1 7).f1 (rd_T67 v.1 8).f1 (rd_T67 v.1 9).f1 (rd_T67 v.1 10).f2.size
  case neg =>
    rw [decide_eq_false hg] at sg
    refine ⟨0, 0, false, 0, 0, 0, 0, 0, 0, (⟨#[]⟩ : ByteArray), false, Ev.step (fun k => by rw [spec_ReadBundle.j0]) ?_, Ev.step (fun k => by rw [impl_ReadBundle.j0]) ?_, zero⟩
    · exact Ev.ite_neg (by decide) (Ev.ite_pos c1 (Ev.ite_pos c2 (Ev.ite_pos c3 (Ev.ite_pos c4 (Ev.ite_pos c5 (Ev.ite_pos c6 (Ev.ite_pos c7 (Ev.ite_pos c8 (Ev.ite_pos c9 (Ev.ite_pos c10 (Ev.opt_bind sg (Ev.ite_neg (by decide) (Ev.now _)))))))))))))
    · exact Ev.ite_neg (by decide) (Ev.ite_pos c1 (Ev.ite_pos c2 (Ev.ite_pos c3 (Ev.ite_pos c4 (Ev.ite_pos c5 (Ev.ite_pos c6 (Ev.ite_pos c7 (Ev.ite_pos c8 (Ev.ite_pos c9 (Ev.ite_pos c10 (Ev.bind (i2 hg) (Ev.ite_neg (by decide) (Ev.now _)))))))))))))
  rw [decide_eq_true hg] at sg
  have st := specBundleText (a2 := ((rd_T67 v.1 3).f1 == 1)) hg
  have it := i1 hg
  generalize hqq : bundleText (rd_T67 v.1 1).f1 (rd_T67 v.1 2).f1 ((rd_T67 v.1 3).f1 == 1) (rd_T67 v.1 4).f1 (rd_T67 v.1 5).f1 (rd_T67 v.1 6).f1 (rd_T67 v.1 7).f1 (rd_T67 v.1 8).f1 (rd_T67 v.1 9).f1 (rd_T67 v.1 10).f2 = q at st it
  by_cases hq : q.toList = s.toList
  · refine ⟨(rd_T67 v.1 1).f1, (rd_T67 v.1 2).f1, (rd_T67 v.1 3).f1 == 1, (rd_T67 v.1 4).f1, (rd_T67 v.1 5).f1, (rd_T67 v.1 6).f1, (rd_T67 v.1 7).f1, (rd_T67 v.1 8).f1, (rd_T67 v.1 9).f1, (rd_T67 v.1 10).f2, true, Ev.step (fun k => by rw [spec_ReadBundle.j0]) ?_, Ev.step (fun k => by rw [impl_ReadBundle.j0]) ?_, fun _ => ⟨hg, hqq.trans (toList_inj.mp hq), h1⟩, hb.1, hb.2⟩
    · exact Ev.ite_neg (by decide) (Ev.ite_pos c1 (Ev.ite_pos c2 (Ev.ite_pos c3 (Ev.ite_pos c4 (Ev.ite_pos c5 (Ev.ite_pos c6 (Ev.ite_pos c7 (Ev.ite_pos c8 (Ev.ite_pos c9 (Ev.ite_pos c10 (Ev.opt_bind sg (Ev.ite_pos rfl (Ev.bind st (Ev.ite_pos hq (Ev.now _)))))))))))))))
    · exact Ev.ite_neg (by decide) (Ev.ite_pos c1 (Ev.ite_pos c2 (Ev.ite_pos c3 (Ev.ite_pos c4 (Ev.ite_pos c5 (Ev.ite_pos c6 (Ev.ite_pos c7 (Ev.ite_pos c8 (Ev.ite_pos c9 (Ev.ite_pos c10 (Ev.bind it (Ev.ite_pos rfl (Ev.ite_pos hq (Ev.now _))))))))))))))
  · refine ⟨0, 0, false, 0, 0, 0, 0, 0, 0, (⟨#[]⟩ : ByteArray), false, Ev.step (fun k => by rw [spec_ReadBundle.j0]) ?_, Ev.step (fun k => by rw [impl_ReadBundle.j0]) ?_, zero⟩
    · exact Ev.ite_neg (by decide) (Ev.ite_pos c1 (Ev.ite_pos c2 (Ev.ite_pos c3 (Ev.ite_pos c4 (Ev.ite_pos c5 (Ev.ite_pos c6 (Ev.ite_pos c7 (Ev.ite_pos c8 (Ev.ite_pos c9 (Ev.ite_pos c10 (Ev.opt_bind sg (Ev.ite_pos rfl (Ev.bind st (Ev.ite_neg hq (Ev.now _)))))))))))))))
    · exact Ev.ite_neg (by decide) (Ev.ite_pos c1 (Ev.ite_pos c2 (Ev.ite_pos c3 (Ev.ite_pos c4 (Ev.ite_pos c5 (Ev.ite_pos c6 (Ev.ite_pos c7 (Ev.ite_pos c8 (Ev.ite_pos c9 (Ev.ite_pos c10 (Ev.bind it (Ev.ite_pos rfl (Ev.ite_neg hq (Ev.now _))))))))))))))
def Code (c : List Int) : Prop := c.length ≤ 140737488355328 ∧ ∀ x ∈ c, 0 ≤ x ∧ x ≤ 255
theorem code_of {l : List Int} (h0 : l.length * 1 ≤ 140737488351232) (h : ∀ x ∈ l, (Lit.int .u8 x).wf = true) : Code l := ⟨by omega, fun x hx => wf_u8 (h x hx)⟩
theorem Code.rd {c : List Int} (h : Code c) (i : Int) : 0 ≤ rd c i ∧ rd c i ≤ 255 := by
  unfold Go.Proofs.YtaffjcaohbkmoaaW.PrintWords.rd
  rw [List.getD_eq_getElem?_getD]
  by_cases hi : i.toNat < c.length
  · rw [List.getElem?_eq_getElem hi]
    exact h.2 _ (List.getElem_mem hi)
  · rw [List.getElem?_eq_none (by omega)]
    simp
theorem u64_wraps (n : Int) (h0 : 0 ≤ n) (h1 : n < 2 ^ 64) : IntKind.u64.wrap n = n := by
  have e : IntKind.u64.wrap n = n % 18446744073709551616 := by simp [IntKind.wrap, IntKind.bits, IntKind.signed]
  rw [e]; omega
theorem u64_bd (n : Int) : 0 ≤ IntKind.u64.wrap n ∧ IntKind.u64.wrap n < 2 ^ 64 := by
  have e : IntKind.u64.wrap n = n % 18446744073709551616 := by simp [IntKind.wrap, IntKind.bits, IntKind.signed]
  rw [e]; omega
theorem low_byte (n : Int) : 0 ≤ wrap64 (Go.bits .and .u64 (IntKind.u64.wrap n / 1099511627776) 255) ∧ wrap64 (Go.bits .and .u64 (IntKind.u64.wrap n / 1099511627776) 255) ≤ 255 := by
  obtain ⟨h0, h1⟩ := u64_bd n
  generalize IntKind.u64.wrap n = x at h0 h1 ⊢
  have := bits_mask .u64 64 (by decide) u64_wraps 8 (by omega) (x / 1099511627776) (by omega) (by omega)
  have e : Go.bits .and .u64 (x / 1099511627776) 255 = (x / 1099511627776) % 256 := by simpa using this
  rw [e, w64 (by omega) (by omega)]
  omega
theorem next_val {c : List Int} (hc : Code c) {p : Int} (s : Int) (h0 : 0 ≤ p) (h1 : p ≤ 4611686018427387904) :
    ∃ b s', spec_l1Cur_next.f c p s = some (b, p + 1, s') ∧ 0 ≤ b ∧ b ≤ 255 := by
  have hl := hc.1
  have hw : wrap64 (p + 1) = p + 1 := w64 (by omega) (by omega)
  unfold spec_l1Cur_next.f
  rw [hw]
  by_cases hp : p < (c.length : Int)
  · rw [if_pos hp, if_pos h0, if_pos (show p + 1 ≤ (c.length : Int) by omega)]
    have hr := hc.rd p
    refine ⟨_, _, rfl, ?_⟩
    rw [w64 (by omega) (by omega)]
    exact hr
  · rw [if_neg hp, if_neg (show ¬ p + 1 ≤ (c.length : Int) by omega)]
    exact ⟨_, _, rfl, low_byte _⟩
theorem pick_val {c : List Int} (hc : Code c) {p : Int} (s n : Int) (h0 : 0 ≤ p) (h1 : p ≤ 4611686018427387903) :
    ∃ v p' s', spec_l1Cur_pick.f c p s n = some (v, p', s') ∧ 0 ≤ v ∧ (v < n ∨ n ≤ 1 ∧ v = 0) ∧ p ≤ p' ∧ p' ≤ p + 2 := by
  unfold spec_l1Cur_pick.f
  by_cases hn : n ≤ 1
  · rw [if_pos hn]
    exact ⟨0, p, s, rfl, by omega, .inr ⟨hn, rfl⟩, by omega, by omega⟩
  · rw [if_neg hn]
    obtain ⟨b, s', e, b0, b1⟩ := next_val hc s h0 (by omega)
    rw [e, Option.bind_some]
    by_cases h2 : n > 200
    · rw [if_pos h2]
      obtain ⟨b2, s2, e2, b20, b21⟩ := next_val hc (p := p + 1) s' (by omega) (by omega)
      simp only
      rw [e2, Option.bind_some, if_neg (show ¬ n = 0 by omega)]
      refine ⟨_, _, _, rfl, ?_, .inl ?_, by simp only; omega, by simp only; omega⟩
      · rw [w64 (x := b * 256) (by omega) (by omega), w64 (by omega) (by omega), Int.tmod_eq_emod_of_nonneg (by omega)]
        exact Int.emod_nonneg _ (by omega)
      · rw [w64 (x := b * 256) (by omega) (by omega), w64 (by omega) (by omega), Int.tmod_eq_emod_of_nonneg (by omega)]
        exact Int.emod_lt_of_pos _ (by omega)
    · rw [if_neg h2]
      simp only
      rw [if_neg (show ¬ n = 0 by omega)]
      refine ⟨_, _, _, rfl, ?_, .inl ?_, by omega, by omega⟩
      · rw [Int.tmod_eq_emod_of_nonneg (by omega)]
        exact Int.emod_nonneg _ (by omega)
      · rw [Int.tmod_eq_emod_of_nonneg (by omega)]
        exact Int.emod_lt_of_pos _ (by omega)
theorem among_val {c : List Int} (hc : Code c) {p : Int} (s : Int) (l : List Int) (hl : 2 ≤ l.length) (hb : l.length ≤ 1000000) (h0 : 0 ≤ p) (h1 : p ≤ 4611686018427387903) :
    ∃ v p' s', spec_l1Cur_among.f c p s l = some (v, p', s') ∧ v ∈ l ∧ p ≤ p' ∧ p' ≤ p + 2 := by
  obtain ⟨v, p', s', e, v0, v1, p0, p1⟩ := pick_val hc s (l.length : Int) h0 h1
  have v2 : v < (l.length : Int) := by omega
  unfold spec_l1Cur_among.f
  rw [e, Option.bind_some]
  simp only
  rw [if_pos v0, if_pos v2]
  obtain ⟨n, rfl⟩ := Int.eq_ofNat_of_zero_le v0
  have hn : n < l.length := by omega
  refine ⟨_, _, _, rfl, ?_, p0, p1⟩
  rw [rd_eq l n hn]
  exact List.getElem_mem hn
theorem one_val {c : List Int} (hc : Code c) {p : Int} (s n : Int) (h0 : 0 ≤ p) (h1 : p ≤ 4611686018427387903) :
    ∃ b p' s', spec_l1Cur_one.f c p s n = some (b, p', s') ∧ p ≤ p' ∧ p' ≤ p + 2 := by
  obtain ⟨v, p', s', e, _, _, p0, p1⟩ := pick_val hc s n h0 h1
  unfold spec_l1Cur_one.f
  rw [e, Option.bind_some]
  exact ⟨_, _, _, rfl, p0, p1⟩
theorem of_val {c : List Int} (hc : Code c) {p : Int} (s : Int) (l : List ByteArray) (hl : 2 ≤ l.length) (hb : l.length ≤ 1000000) (h0 : 0 ≤ p) (h1 : p ≤ 4611686018427387903) :
    ∃ v p' s', spec_l1Cur_of.f c p s l = some (v, p', s') ∧ v ∈ l ∧ p ≤ p' ∧ p' ≤ p + 2 := by
  obtain ⟨v, p', s', e, v0, v1, p0, p1⟩ := pick_val hc s (l.length : Int) h0 h1
  have v2 : v < (l.length : Int) := by omega
  unfold spec_l1Cur_of.f
  rw [e, Option.bind_some]
  simp only
  rw [if_pos v0, if_pos v2]
  obtain ⟨n, rfl⟩ := Int.eq_ofNat_of_zero_le v0
  have hn : n < l.length := by omega
  refine ⟨_, _, _, rfl, ?_, p0, p1⟩
  simp only [rdOf, Int.toNat_natCast]
  rw [List.getD_eq_getElem?_getD, List.getElem?_eq_getElem hn]
  exact List.getElem_mem hn
theorem bundle1_val {c : List Int} (hc : Code c) (p s : Int) (h0 : 0 ≤ p) (h1 : p ≤ 4611686018427380000) (x0 x1 : Int) (x2 : Bool) (x3 x4 x5 x6 x7 x8 : Int) (x9 : ByteArray) (h8 : -9223372036854775808 ≤ x8 ∧ x8 ≤ 9223372036854775807) (h9 : x9.size ≤ 27) :
    ∃ (b0 b1 : Int) (b2 : Bool) (b3 b4 b5 b6 b7 b8 : Int) (b9 : ByteArray) (p' s' : Int), Ev (fun k => spec_l1Cur_bundle.j1 k c p s x0 x1 x2 x3 x4 x5 x6 x7 x8 x9) (b0, b1, b2, b3, b4, b5, b6, b7, b8, b9, p', s') ∧
      (-9223372036854775808 ≤ b8 ∧ b8 ≤ 9223372036854775807) ∧ b9.size ≤ 27 ∧ p ≤ p' ∧ p' ≤ p + 10 := by
  obtain ⟨v, p1, s1, e1, _, _, q0, q1⟩ := pick_val hc s 30 h0 (by omega)
  by_cases c0 : v = 0
  · obtain ⟨w, p2, s2, e2, _, r0, r1⟩ := among_val hc (p := p1) s1 ([0, 1000000, 1000001] : List Int) (by decide) (by decide) (by omega) (by omega)
    refine ⟨x0, x1, x2, x3, x4, w, x6, x7, x8, x9, p2, s2, ?h, h8, h9, ?a, ?b⟩
    case h =>
      refine Ev.step (fun k => by rw [spec_l1Cur_bundle.j1]) ?_
      refine Ev.opt_bind e1 ?_; refine Ev.ite_pos c0 ?_; refine Ev.opt_bind e2 ?_; exact Ev.now _
    case a => first | omega | (simp only; omega)
    case b => first | omega | (simp only; omega)
  by_cases c1 : v = 1
  · obtain ⟨w, p2, s2, e2, _, r0, r1⟩ := among_val hc (p := p1) s1 ([(-1), 30, 31] : List Int) (by decide) (by decide) (by omega) (by omega)
    refine ⟨x0, x1, x2, x3, x4, x5, w, x7, x8, x9, p2, s2, ?h, h8, h9, ?a, ?b⟩
    case h =>
      refine Ev.step (fun k => by rw [spec_l1Cur_bundle.j1]) ?_
      refine Ev.opt_bind e1 ?_; refine Ev.ite_neg c0 ?_; refine Ev.ite_pos c1 ?_; refine Ev.opt_bind e2 ?_; exact Ev.now _
    case a => first | omega | (simp only; omega)
    case b => first | omega | (simp only; omega)
  by_cases c2 : v = 2
  · obtain ⟨w, p2, s2, e2, _, _, r0, r1⟩ := pick_val hc (p := p1) s1 70 (by omega) (by omega)
    refine ⟨x0, x1, x2, x3, x4, x5, x6, w, x8, x9, p2, s2, ?h, h8, h9, ?a, ?b⟩
    case h =>
      refine Ev.step (fun k => by rw [spec_l1Cur_bundle.j1]) ?_
      refine Ev.opt_bind e1 ?_; refine Ev.ite_neg c0 ?_; refine Ev.ite_neg c1 ?_; refine Ev.ite_pos c2 ?_; refine Ev.opt_bind e2 ?_; exact Ev.now _
    case a => first | omega | (simp only; omega)
    case b => first | omega | (simp only; omega)
  · refine ⟨x0, x1, x2, x3, x4, x5, x6, x7, x8, x9, p1, s1, ?h, h8, h9, ?a, ?b⟩
    case h =>
      refine Ev.step (fun k => by rw [spec_l1Cur_bundle.j1]) ?_
      refine Ev.opt_bind e1 ?_; refine Ev.ite_neg c0 ?_; refine Ev.ite_neg c1 ?_; refine Ev.ite_neg c2 ?_; exact Ev.now _
    case a => first | omega | (simp only; omega)
    case b => first | omega | (simp only; omega)
theorem bundle0_val {c : List Int} (hc : Code c) (d : Bool) (p s : Int) (h0 : 0 ≤ p) (h1 : p ≤ 4611686018427370000) (x0 x1 : Int) (x2 : Bool) (x3 x4 x5 x6 : Int) (x9 : ByteArray) (h9 : x9.size ≤ 27) :
    ∃ (b0 b1 : Int) (b2 : Bool) (b3 b4 b5 b6 b7 b8 : Int) (b9 : ByteArray) (p' s' : Int), Ev (fun k => spec_l1Cur_bundle.j0 k d c p s x0 x1 x2 x3 x4 x5 x6 0 0 x9) (b0, b1, b2, b3, b4, b5, b6, b7, b8, b9, p', s') ∧
      (-9223372036854775808 ≤ b8 ∧ b8 ≤ 9223372036854775807) ∧ b9.size ≤ 27 ∧ p ≤ p' ∧ p' ≤ p + 20 := by
  cases d with
  | false =>
    obtain ⟨b0, b1, b2, b3, b4, b5, b6, b7, b8, b9, p', s', e, r1, r2, r3, r4⟩ := bundle1_val hc p s h0 (by omega) x0 x1 x2 x3 x4 x5 x6 0 0 x9 (by omega) h9
    exact ⟨b0, b1, b2, b3, b4, b5, b6, b7, b8, b9, p', s', Ev.step (fun k => by rw [spec_l1Cur_bundle.j0]) (Ev.ite_neg (by simp) e), r1, r2, r3, by omega⟩
  | true =>
    obtain ⟨v, p1, s1, e1, _, _, q0, q1⟩ := pick_val hc s 31 h0 (by omega)
    obtain ⟨w, p2, s2, e2, _, _, q2, q3⟩ := pick_val hc (p := p1) s1 4 (by omega) (by omega)
    obtain ⟨b0, b1, b2, b3, b4, b5, b6, b7, b8, b9, p', s', e, r1, r2, r3, r4⟩ := bundle1_val hc p2 s2 (by omega) (by omega) x0 x1 x2 x3 x4 x5 x6 w (wrap64 (30 + v)) x9 (w64_bd _) h9
    exact ⟨b0, b1, b2, b3, b4, b5, b6, b7, b8, b9, p', s', Ev.step (fun k => by rw [spec_l1Cur_bundle.j0]) (Ev.ite_pos rfl (Ev.opt_bind e1 (Ev.opt_bind e2 e))), r1, r2, by omega, by omega⟩
theorem bundle_val {c : List Int} (hc : Code c) (p s : Int) (h0 : 0 ≤ p) (h1 : p ≤ 4611686018427360000) :
    ∃ (b0 b1 : Int) (b2 : Bool) (b3 b4 b5 b6 b7 b8 : Int) (b9 : ByteArray) (p' s' : Int), Ev (fun k => spec_l1Cur_bundle.f k c p s) (b0, b1, b2, b3, b4, b5, b6, b7, b8, b9, p', s') ∧
      (-9223372036854775808 ≤ b8 ∧ b8 ≤ 9223372036854775807) ∧ b9.size ≤ 27 ∧ p ≤ p' ∧ p' ≤ p + 60 := by
  obtain ⟨v1, p1, s1, e1, _, _, q1, r1⟩ := pick_val hc s 5 h0 (by omega)
  obtain ⟨v2, p2, s2, e2, _, _, q2, r2⟩ := pick_val hc (p := p1) s1 5 (by omega) (by omega)
  obtain ⟨v3, p3, s3, e3, q3, r3⟩ := one_val hc (p := p2) s2 3 (by omega) (by omega)
  obtain ⟨v4, p4, s4, e4, _, _, q4, r4⟩ := pick_val hc (p := p3) s3 50 (by omega) (by omega)
  obtain ⟨v5, p5, s5, e5, _, _, q5, r5⟩ := pick_val hc (p := p4) s4 4 (by omega) (by omega)
  obtain ⟨v6, p6, s6, e6, _, _, q6, r6⟩ := pick_val hc (p := p5) s5 90 (by omega) (by omega)
  obtain ⟨v7, p7, s7, e7, _, _, q7, r7⟩ := pick_val hc (p := p6) s6 6 (by omega) (by omega)
  obtain ⟨v8, p8, s8, e8, m8, q8, r8⟩ := of_val hc (p := p7) s7 ([(⟨#[]⟩ : ByteArray), (⟨#[104, 101, 108, 108, 111]⟩ : ByteArray), (⟨#[97, 32, 108, 111, 110, 103, 101, 114, 32, 116, 101, 120, 116, 32, 111, 102, 32, 115, 111, 109, 101, 32, 98, 121, 116, 101, 115]⟩ : ByteArray), (⟨#[0, 255]⟩ : ByteArray)] : List ByteArray) (by decide) (by decide) (by omega) (by omega)
  have h9 : v8.size ≤ 27 := by
    simp only [List.mem_cons, List.not_mem_nil, or_false] at m8
    rcases m8 with rfl | rfl | rfl | rfl <;> decide
  simp only [spec_l1Cur_bundle.f]
  by_cases cE : v8.toList = ([] : List UInt8)
  · obtain ⟨b0, b1, b2, b3, b4, b5, b6, b7, b8, b9, p', s', e, t1, t2, t3, t4⟩ := bundle0_val hc false p8 s8 (by omega) (by omega) v1 v2 v3 v4 v5 (wrap64 (1 + v6)) v7 v8 h9
    exact ⟨b0, b1, b2, b3, b4, b5, b6, b7, b8, b9, p', s', Ev.opt_bind e1 (Ev.opt_bind e2 (Ev.opt_bind e3 (Ev.opt_bind e4 (Ev.opt_bind e5 (Ev.opt_bind e6 (Ev.opt_bind e7 (Ev.opt_bind e8 (Ev.ite_pos cE e)))))))), t1, t2, by omega, by omega⟩
  · obtain ⟨v9, p9, s9, e9, q9, r9⟩ := one_val hc (p := p8) s8 4 (by omega) (by omega)
    obtain ⟨b0, b1, b2, b3, b4, b5, b6, b7, b8, b9, p', s', e, t1, t2, t3, t4⟩ := bundle0_val hc v9 p9 s9 (by omega) (by omega) v1 v2 v3 v4 v5 (wrap64 (1 + v6)) v7 v8 h9
    exact ⟨b0, b1, b2, b3, b4, b5, b6, b7, b8, b9, p', s', Ev.opt_bind e1 (Ev.opt_bind e2 (Ev.opt_bind e3 (Ev.opt_bind e4 (Ev.opt_bind e5 (Ev.opt_bind e6 (Ev.opt_bind e7 (Ev.opt_bind e8 (Ev.ite_neg cE (Ev.opt_bind e9 e))))))))), t1, t2, by omega, by omega⟩
theorem step_w (i : Nat) (h : i ≤ 2000000) : wrap64 ((i : Int) + 1) = ((i + 1 : Nat) : Int) := by rw [w64 (by omega) (by omega)]; omega
theorem sz_ins (t y : ByteArray) (i : Nat) (hi : i < t.size) (hy : y.size = 1) (hb : t.size ≤ 2000000) : (t.extract 0 i).size + y.size ≤ 9223372036854775807 ∧ ((t.extract 0 i).size + y.size) + (t.extract i t.size).size ≤ 9223372036854775807 ∧ ((t.extract 0 i ++ y) ++ t.extract i t.size).size = t.size + 1 := by
  simp only [ByteArray.size_append, ByteArray.size_extract, hy]; omega
theorem sz_put (t y : ByteArray) (i : Nat) (hi : i < t.size) (hy : y.size = 1) (hb : t.size ≤ 2000000) : ((t.extract 0 i).size + y.size) + (t.extract (i + 1) t.size).size ≤ 9223372036854775807 ∧ ((t.extract 0 i ++ y) ++ t.extract (i + 1) t.size).size = t.size := by
  simp only [ByteArray.size_append, ByteArray.size_extract, hy]; omega
theorem sz_del (t : ByteArray) (i : Nat) (hi : i < t.size) (hb : t.size ≤ 2000000) : (t.extract 0 i).size + (t.extract (i + 1) t.size).size ≤ 9223372036854775807 ∧ (t.extract 0 i ++ t.extract (i + 1) t.size).size + 1 = t.size := by
  simp only [ByteArray.size_append, ByteArray.size_extract]; omega
set_option maxHeartbeats 2000000 in
theorem spoilt_go {c : List Int} (hc : Code c) (alts : ByteArray) (h2 : 2 ≤ alts.size) (h3 : alts.size ≤ 1000) (n : Nat) (hn : n ≤ 3) : ∀ (t : ByteArray) (p s : Int), t.size + n ≤ 1000000 → 0 ≤ p → p + 6 * n ≤ 4611686018427380000 →
    ∃ t' p' s', Ev (fun k => spec_l1Cur_spoilt.l0 k t alts (n : Int) c p s) (t', p', s') ∧ t'.size ≤ t.size + n ∧ p ≤ p' ∧ p' ≤ p + 6 * n := by
  induction n with
  | zero =>
    intro t p s _ h0 h1
    refine ⟨t, p, s, Ev.step (fun k => by rw [spec_l1Cur_spoilt.l0]) (Ev.ite_neg (by decide) (Ev.step (fun k => by rw [spec_l1Cur_spoilt.j1]) ?_)), by omega, by omega, by omega⟩
    exact Ev.ite_neg (by decide) (Ev.now _)
  | succ n ih =>
    intro t p s ht h0 h1
    have ihn := ih (by omega)
    have hw : wrap64 (((n + 1 : Nat) : Int) - 1) = (n : Int) := by rw [w64 (by omega) (by omega)]; omega
    have open_ : ∀ {r}, Ev (fun k => spec_l1Cur_spoilt.j1 k t alts ((n + 1 : Nat) : Int) (decide ((t.size : Int) > 0)) c p s) r → Ev (fun k => spec_l1Cur_spoilt.l0 k t alts ((n + 1 : Nat) : Int) c p s) r := fun {r} h => Ev.step (r := r) (fun k => by rw [spec_l1Cur_spoilt.l0]) (Ev.ite_pos (by omega) h)
    by_cases hz : (t.size : Int) > 0
    case neg =>
      rw [decide_eq_false hz] at open_
      refine ⟨t, p, s, open_ (Ev.step (fun k => by rw [spec_l1Cur_spoilt.j1]) ?_), by omega, by omega, by omega⟩
      exact Ev.ite_neg (by decide) (Ev.now _)
    rw [decide_eq_true hz] at open_
    obtain ⟨v, p1, s1, e1, v0, v1, q0, q1⟩ := pick_val hc s (t.size : Int) h0 (by omega)
    obtain ⟨i, rfl⟩ := Int.eq_ofNat_of_zero_le v0
    have hi : i < t.size := by omega
    obtain ⟨v, p2, s2, e2, u0, u1, r0, r1⟩ := pick_val hc (p := p1) s1 (alts.size : Int) (by omega) (by omega)
    have u2 : v < (alts.size : Int) := by omega
    obtain ⟨m, p3, s3, e3, m0, m1, t0, t1⟩ := pick_val hc (p := p2) s2 3 (by omega) (by omega)
    have hb2 : t.size ≤ 2000000 := Nat.le_trans (Nat.le_trans (Nat.le_add_right _ _) ht) (by decide)
    have c1 : (0 : Int) ≤ (i : Int) := Int.natCast_nonneg i
    have c2 : (i : Int) ≤ (t.size : Int) := Int.ofNat_le.mpr (Nat.le_of_lt hi)
    have c3 : (0 : Int) ≤ ((i + 1 : Nat) : Int) := Int.natCast_nonneg _
    have c4 : ((i + 1 : Nat) : Int) ≤ (t.size : Int) := Int.ofNat_le.mpr hi
    have wi := step_w i (Nat.le_trans (Nat.le_of_lt hi) hb2)
    have hy : (strOfNums [bt alts v]).size = 1 := by rw [strOfNums_size, List.length_singleton]
    obtain ⟨y1, y2, y3⟩ := sz_ins t (strOfNums [bt alts v]) i hi hy hb2
    obtain ⟨x1, x2⟩ := sz_put t (strOfNums [bt alts v]) i hi hy hb2
    obtain ⟨d1, d2⟩ := sz_del t i hi hb2
    have ra : p3 ≤ p + 6 := by omega
    have rb : p ≤ p3 := by omega
    have rc : p3 + 6 * (n : Int) ≤ 4611686018427380000 := by omega
    have fin : ∀ t4 : ByteArray, t4.size ≤ t.size + 1 → ∃ t' p' s', Ev (fun k => spec_l1Cur_spoilt.l0 k t4 alts (n : Int) c p3 s3) (t', p', s') ∧ t'.size ≤ t.size + (n + 1) ∧ p ≤ p' ∧ p' ≤ p + 6 * ((n + 1 : Nat) : Int) := fun t4 h4 => by
      obtain ⟨t', p', s', f, f1, f2, f3⟩ := ihn t4 p3 s3 (by omega) (by omega) rc
      exact ⟨t', p', s', f, by omega, by omega, by omega⟩
    obtain ⟨ta, pa, sa, fa, fa1⟩ := fin _ (Nat.le_of_eq y3)
    obtain ⟨tb, pb, sb, fb, fb1⟩ := fin _ (Nat.le_succ_of_le (Nat.le_of_eq x2))
    obtain ⟨tc, pc, sc, fc, fc1⟩ := fin _ (show (t.extract 0 i ++ t.extract (i + 1) t.size).size ≤ t.size + 1 by omega)
    clear fin ihn ih
    by_cases g0 : m = 0
    · refine ⟨ta, pa, sa, open_ (Ev.step (fun k => by rw [spec_l1Cur_spoilt.j1]) (Ev.ite_pos rfl (Ev.opt_bind e1 (Ev.opt_bind e2 (Ev.ite_pos u0 (Ev.ite_pos u2 ?_)))))), fa1⟩
      refine Ev.some_bind ?_
      refine Ev.opt_bind e3 ?_
      simp only [hw, Int.toNat_natCast]
      exact Ev.ite_pos g0 (Ev.ite_pos c1 (Ev.ite_pos c2 (Ev.ite_pos y1 (Ev.ite_pos y2 fa))))
    by_cases g1 : m = 1
    · refine ⟨tb, pb, sb, open_ (Ev.step (fun k => by rw [spec_l1Cur_spoilt.j1]) (Ev.ite_pos rfl (Ev.opt_bind e1 (Ev.opt_bind e2 (Ev.ite_pos u0 (Ev.ite_pos u2 ?_)))))), fb1⟩
      refine Ev.some_bind ?_
      refine Ev.opt_bind e3 ?_
      simp only [hw, wi, Int.toNat_natCast]
      exact Ev.ite_neg g0 (Ev.ite_pos g1 (Ev.ite_pos c1 (Ev.ite_pos c2 (Ev.ite_pos y1 (Ev.ite_pos c3 (Ev.ite_pos c4 (Ev.ite_pos x1 fb)))))))
    · refine ⟨tc, pc, sc, open_ (Ev.step (fun k => by rw [spec_l1Cur_spoilt.j1]) (Ev.ite_pos rfl (Ev.opt_bind e1 (Ev.opt_bind e2 (Ev.ite_pos u0 (Ev.ite_pos u2 ?_)))))), fc1⟩
      refine Ev.some_bind ?_
      refine Ev.opt_bind e3 ?_
      simp only [hw, wi, Int.toNat_natCast]
      exact Ev.ite_neg g0 (Ev.ite_neg g1 (Ev.ite_pos c1 (Ev.ite_pos c2 (Ev.ite_pos c3 (Ev.ite_pos c4 (Ev.ite_pos d1 fc))))))
theorem spoilt_val {c : List Int} (hc : Code c) (t alts : ByteArray) (h2 : 2 ≤ alts.size) (h3 : alts.size ≤ 1000) (p s : Int) (ht : t.size ≤ 900000) (h0 : 0 ≤ p) (h1 : p ≤ 4611686018427370000) :
    ∃ t' p' s', Ev (fun k => spec_l1Cur_spoilt.f k c p s t alts) (t', p', s') ∧ t'.size ≤ t.size + 2 ∧ p ≤ p' ∧ p' ≤ p + 20 := by
  obtain ⟨v, p1, s1, e1, v0, v1, q0, q1⟩ := pick_val hc s 3 h0 (by omega)
  obtain ⟨n, rfl⟩ := Int.eq_ofNat_of_zero_le v0
  obtain ⟨t', p', s', f, f1, f2, f3⟩ := spoilt_go hc alts h2 h3 n (by omega) t p1 s1 (by omega) (by omega) (by omega)
  simp only [spec_l1Cur_spoilt.f]
  exact ⟨t', p', s', Ev.opt_bind e1 f, by omega, by omega, by omega⟩
theorem drawBundleBytes_val {c : List Int} (hc : Code c) : ∃ (b0 b1 : Int) (b2 : Bool) (b3 b4 b5 b6 b7 b8 : Int) (b9 : ByteArray), Ev (fun k => spec_DrawBundleBytes.f k c) (b0, b1, b2, b3, b4, b5, b6, b7, b8, b9) ∧ (-9223372036854775808 ≤ b8 ∧ b8 ≤ 9223372036854775807) := by
  obtain ⟨b0, b1, b2, b3, b4, b5, b6, b7, b8, b9, p', s', e, t1, _⟩ := bundle_val hc 0 0 (by omega) (by omega)
  simp only [spec_DrawBundleBytes.f, spec_DrawGoodBundle.f]
  exact ⟨b0, b1, b2, b3, b4, b5, b6, b7, b8, b9, Ev.bind (Ev.bind e (Ev.now _)) (Ev.now _), t1⟩
theorem drawReadBundle_val {c : List Int} (hc : Code c) : ∃ t : ByteArray, Ev (fun k => spec_DrawReadBundle.f k c) t ∧ t.size ≤ 402 := by
  obtain ⟨b0, b1, b2, b3, b4, b5, b6, b7, b8, b9, p', s', e, t1, t2, t3, t4⟩ := bundle_val hc 0 0 (by omega) (by omega)
  obtain ⟨r, x, y, rg, rn⟩ := bundleBytes_both b0 b1 b2 b3 b4 b5 b6 b7 b8 b9 t1
  have hz : r.1.size ≤ 400 := by
    by_cases g : GoodP b0 b1 b3 b4 b5 b6 b7 b8 b9.size
    · rw [rg g]
      have := bundleText_size (a0 := b0) (a1 := b1) (a2 := b2) (a3 := b3) (a4 := b4) (a5 := b5) (a6 := b6) (a7 := b7) (a8 := b8) (show b9.size ≤ 60 by omega)
      show (withSum _).size ≤ 400
      rw [withSum, ByteArray.size_append, strOfNums_size]
      show _ + 2 ≤ 400
      omega
    · rw [rn g]; decide
  obtain ⟨b, p2, s2, e3, r0, r1⟩ := one_val hc (p := p') s' 4 (by omega) (by omega)
  simp only [spec_DrawReadBundle.f]
  cases b with
  | false => exact ⟨r.1, Ev.bind e (Ev.bind x (Ev.opt_bind e3 (Ev.ite_neg (by simp) (Ev.now _)))), by omega⟩
  | true =>
    obtain ⟨t', p3, s3, e4, h5, _⟩ := spoilt_val hc r.1 (⟨#[0, 24, 138]⟩ : ByteArray) (by decide) (by decide) p2 s2 (by omega) (by omega) (by omega)
    exact ⟨t', Ev.bind e (Ev.bind x (Ev.opt_bind e3 (Ev.ite_pos rfl (Ev.bind e4 (Ev.now _))))), by omega⟩
theorem numberOf_go (l : List Int) (hl : l.length ≤ 140737488355328) (hb : ∀ x ∈ l, 0 ≤ x ∧ x ≤ 255) (d : Nat) : ∀ (i : Nat) (n : Int), l.length - i = d → i ≤ l.length → 0 ≤ n → n < 1000003 → ∃ m : Int, Ev (fun k => laws_numberOf.l0 k n l (l.length : Int) (i : Int)) m ∧ 0 ≤ m ∧ m < 1000003 := by
  induction d with
  | zero =>
    intro i n hd hi h0 h1
    exact ⟨n, Ev.step (fun k => by rw [laws_numberOf.l0]) (Ev.ite_neg (by omega) (Ev.now _)), h0, h1⟩
  | succ d ih =>
    intro i n hd hi h0 h1
    have hr := hb (rd l (i : Int)) (by rw [rd_eq l i (by omega)]; exact List.getElem_mem _)
    have w1 : wrap64 ((wrap64 (31 * n)) + (wrap64 (rd l (i : Int)))) = 31 * n + rd l (i : Int) := by
      rw [w64 (x := 31 * n) (by omega) (by omega), w64 (x := rd l (i : Int)) (by omega) (by omega), w64 (by omega) (by omega)]
    have w2 : wrap64 ((i : Int) + 1) = ((i + 1 : Nat) : Int) := by rw [w64 (by omega) (by omega)]; omega
    have t0 : Int.tmod (31 * n + rd l (i : Int)) 1000003 = (31 * n + rd l (i : Int)) % 1000003 := Int.tmod_eq_emod_of_nonneg (by omega)
    obtain ⟨m, e, g⟩ := ih (i + 1) ((31 * n + rd l (i : Int)) % 1000003) (by omega) (by omega) (by omega) (by omega)
    refine ⟨m, Ev.step (fun k => by rw [laws_numberOf.l0]) (Ev.ite_pos (by omega) (Ev.ite_pos (by omega) (Ev.ite_pos (by omega) ?_))), g⟩
    rw [w1, w2, t0]
    exact e
theorem numberOf_val {l : List Int} (hc : Code l) : ∃ m : Int, Ev (fun k => laws_numberOf.f k l) m ∧ 0 ≤ m ∧ m < 1000003 := by
  simp only [laws_numberOf.f]
  exact numberOf_go l hc.1 hc.2 l.length 0 0 (by omega) (by omega) (by omega) (by omega)
theorem turn_byte {y : Int} (h0 : 0 ≤ y) (h1 : y ≤ 255) {n : Int} (n0 : 0 ≤ n) (n1 : n < 1000003) :
    0 ≤ Go.bits .xor .u8 y ((wrap64 (1 + Int.tmod n 255)) % 256) ∧ Go.bits .xor .u8 y ((wrap64 (1 + Int.tmod n 255)) % 256) < 256 ∧ Go.bits .xor .u8 y ((wrap64 (1 + Int.tmod n 255)) % 256) ≠ y := by
  have t0 : Int.tmod n 255 = n % 255 := Int.tmod_eq_emod_of_nonneg n0
  rw [t0, w64 (by omega) (by omega)]
  obtain ⟨a, rfl⟩ := Int.eq_ofNat_of_zero_le h0
  obtain ⟨b, hb⟩ := Int.eq_ofNat_of_zero_le (show 0 ≤ (1 + n % 255) % 256 by omega)
  rw [hb]
  have hb1 : b < 256 ∧ b ≠ 0 := by omega
  have ha1 : a < 256 := by omega
  rw [bits_xor_nat .u8 8 (by decide) (fun n h0 h1 => by rw [IntKind.wrap_u8]; omega) a b (by omega) (by omega)]
  have hx : a ^^^ b < 256 := Nat.xor_lt_two_pow (n := 8) (by omega) (by omega)
  refine ⟨by omega, by omega, fun h => ?_⟩
  have h2 : a ^^^ b = a := by omega
  have h3 : a ^^^ (a ^^^ b) = b := xor_twice' a b
  rw [h2, Nat.xor_self] at h3
  omega
theorem FnBundles : Go.Proofs.Ytaffjcaohbkmoaa.GoalFnBundles.Goal := by
  intro l0 l1 h0 h0' h0'' h1 h1' h1''
  refine Ev.rounds ?_
  have c0 : Code l0 := code_of h0' h0''
  have c1 : Code l1 := code_of h1' h1''
  have next : Ev (fun k => laws_FnBundles.j2 k l1) true := by
    obtain ⟨t, e1, ht⟩ := drawReadBundle_val c1
    obtain ⟨b0, b1, b2, b3, b4, b5, b6, b7, b8, b9, ok, x, y, z, hb⟩ := readBundle_told t (by omega)
    refine Ev.step (fun k => by rw [laws_FnBundles.j2]) ?_
    refine Ev.bind e1 (Ev.bind y (Ev.bind x (Ev.ite_neg (by simp) (Ev.ite_neg (by simp) ?_))))
    obtain ⟨i1, i2⟩ := implBundle_val b0 b1 b2 b3 b4 b5 b6 b7 b8 b9 hb
    cases ok with
    | true =>
      obtain ⟨g, e, _⟩ := z rfl
      refine Ev.bind (i1 g) (Ev.ite_pos rfl (Ev.ite_pos rfl (Ev.now' ?_)))
      simp [e]
    | false =>
      by_cases g : GoodP b0 b1 b3 b4 b5 b6 b7 b8 b9.size
      · exact Ev.bind (i1 g) (Ev.ite_neg (by simp) (Ev.now _))
      · exact Ev.bind (i2 g) (Ev.ite_neg (by simp) (Ev.now _))
  obtain ⟨b0, b1, b2, b3, b4, b5, b6, b7, b8, b9, dr, hb⟩ := drawBundleBytes_val c0
  obtain ⟨r, x, y, rg, rn⟩ := bundleBytes_both b0 b1 b2 b3 b4 b5 b6 b7 b8 b9 hb
  have gd := implGood b0 b1 b2 b3 b4 b5 b6 b7 b8 b9 hb
  simp only [laws_FnBundles.f]
  refine Ev.ite (fun _ => Ev.now _) fun _ => Ev.bind dr (Ev.bind y (Ev.bind x (Ev.ite_neg (by simp) (Ev.ite_pos rfl (Ev.bind gd ?_)))))
  by_cases hg : GoodP b0 b1 b3 b4 b5 b6 b7 b8 b9.size
  case neg =>
    rw [rn hg, decide_eq_false hg]
    refine Ev.step (fun k => by rw [laws_FnBundles.j0]) ?_
    exact Ev.ite_neg (by simp) (Ev.ite_neg (by simp) next)
  rw [rg hg, decide_eq_true hg]
  have h60 : b9.size ≤ 60 := by unfold GoodP at hg; omega
  have h398 := bundleText_size (a0 := b0) (a1 := b1) (a2 := b2) (a3 := b3) (a4 := b4) (a5 := b5) (a6 := b6) (a7 := b7) (a8 := b8) h60
  refine Ev.step (fun k => by rw [laws_FnBundles.j0]) ?_
  refine Ev.ite_neg (by simp) (Ev.ite_pos rfl (Ev.bind (readBundle_fwd hg) (Ev.ite_pos rfl ?_)))
  simp only [beq_self_eq_true, Bool.not_true, Bool.or_self, Bool.false_or]
  obtain ⟨m, nm, m0, m1⟩ := numberOf_val c1
  have hz : (bundleText b0 b1 b2 b3 b4 b5 b6 b7 b8 b9).size = (itemsText (bundleItems b0 b1 b2 b3 b4 b5 b6 b7 b8 b9)).size + 2 := withSum_size _
  have tt := turned_no (itemsText (bundleItems b0 b1 b2 b3 b4 b5 b6 b7 b8 b9))
  rw [show withSum (itemsText (bundleItems b0 b1 b2 b3 b4 b5 b6 b7 b8 b9)) = bundleText b0 b1 b2 b3 b4 b5 b6 b7 b8 b9 from rfl] at tt
  generalize bundleText b0 b1 b2 b3 b4 b5 b6 b7 b8 b9 = s at *
  have hl : (bytesOf s).length = s.size := bytesOf_length s
  have t0 : Int.tmod m ((bytesOf s).length : Int) = m % ((bytesOf s).length : Int) := Int.tmod_eq_emod_of_nonneg m0
  have t1 := Int.emod_nonneg m (show ((bytesOf s).length : Int) ≠ 0 by omega)
  have t2 := Int.emod_lt_of_pos m (show (0 : Int) < ((bytesOf s).length : Int) by omega)
  refine Ev.step (fun k => by rw [laws_FnBundles.j1]) ?_
  refine Ev.ite_neg (by simp) (Ev.ite_pos (by omega) (Ev.some_bind (Ev.bind nm (Ev.ite_neg (by omega) ?_))))
  rw [t0]
  obtain ⟨j, hj⟩ := Int.eq_ofNat_of_zero_le t1
  rw [hj] at t1 t2 ⊢
  rw [Int.toNat_natCast]
  have hy : 0 ≤ rd (bytesOf s) (j : Int) ∧ rd (bytesOf s) (j : Int) ≤ 255 := by
    rw [rd_eq _ j (by omega)]
    simp only [bytesOf, List.getElem_map]
    have := UInt8.toNat_lt (s.data.toList[j]'(by rw [size_data]; omega))
    omega
  obtain ⟨u0, u1, u2⟩ := turn_byte hy.1 hy.2 m0 m1
  have ng := tt j (by omega) _ u0 u1 u2
  refine Ev.ite_pos t1 (Ev.ite_pos t2 ?_)
  obtain ⟨d0, d1, d2, d3, d4, d5, d6, d7, d8, d9, ok, _, y2, z2, _⟩ := readBundle_told (strOfNums ((bytesOf s).set j (Go.bits .xor .u8 (rd (bytesOf s) (j : Int)) ((wrap64 (1 + Int.tmod m 255)) % 256)))) (by rw [strOfNums_size, List.length_set]; omega)
  refine Ev.bind y2 (Ev.ite_neg ?_ next)
  intro h
  have := (z2 h).2.2
  rw [ng] at this
  cases this
end Go.Proofs.Ytaffjcaohbkmoaa.Pure
