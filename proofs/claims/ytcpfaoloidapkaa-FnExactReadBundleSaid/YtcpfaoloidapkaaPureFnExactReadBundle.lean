import Derived.Test.YtcpfaoloidapkaaQFnExactReadBundlex17
import Derived.Test.YtcpfaoloidapkaaPlain
import Derived.Test.YtcpfaoloidapkaaGoalFnExactReadBundle
set_option linter.unusedVariables false
set_option linter.unusedSimpArgs false
namespace Go.Proofs.Ytcpfaoloidapkaa.Pure
open Go.RowKit Go.Proofs.Ytcpfaoloidapkaa.QFnExactReadBundle Go.Proofs.YtcpfaoloidapkaaW.PrintWords Go.Proofs.YtcpfaoloidapkaaW.PrintLast Go.Proofs.Ytcpfaoloidapkaa.Plain Go.Proofs.Ytcpfaoloidapkaa.GoalFnExactReadBundle
def GoodP (f t mk no life hops off tot : Int) (n : Nat) : Prop :=
  (0 ≤ f ∧ f ≤ 40) ∧ (0 ≤ t ∧ t ≤ 40) ∧ (0 ≤ mk ∧ mk ≤ 1000000) ∧ (0 ≤ no ∧ no ≤ 1000) ∧ (1 ≤ life ∧ life ≤ 1000000) ∧ (0 ≤ hops ∧ hops ≤ 30) ∧ n ≤ 60 ∧
    ((tot = 0 ∧ off = 0) ∨ (1 ≤ tot ∧ tot ≤ 60 ∧ 0 ≤ off ∧ off + n ≤ tot ∧ 0 < n))
instance (f t mk no life hops off tot : Int) (n : Nat) : Decidable (GoodP f t mk no life hops off tot n) := by unfold GoodP; infer_instance
theorem specIn (a b c : Int) : spec_l1In.f a b c = some (decide (b ≤ a ∧ a ≤ c)) := by
  unfold spec_l1In.f
  by_cases h : b ≤ a <;> simp [h]
theorem specGood (a0 a1 : Int) (a2 : Bool) (a3 a4 a5 a6 a7 a8 : Int) (a9 : ByteArray) : spec_GoodBundle.f a0 a1 a2 a3 a4 a5 a6 a7 a8 a9 = some (decide (GoodP a0 a1 a3 a4 a5 a6 a7 a8 a9.size)) := by
  unfold spec_GoodBundle.f
  simp only [specIn, Option.bind_some, decide_eq_true_eq]
  by_cases h0 : 0 ≤ a0 ∧ a0 ≤ 40
  · rw [if_pos h0]
    by_cases h1 : 0 ≤ a1 ∧ a1 ≤ 40
    · rw [if_pos h1]
      by_cases h3 : 0 ≤ a3 ∧ a3 ≤ 1000000
      · rw [if_pos h3]
        by_cases h4 : 0 ≤ a4 ∧ a4 ≤ 1000
        · rw [if_pos h4]
          by_cases h5 : 1 ≤ a5 ∧ a5 ≤ 1000000
          · rw [if_pos h5]
            by_cases h6 : 0 ≤ a6 ∧ a6 ≤ 30
            · rw [if_pos h6]
              by_cases hn : (a9.size : Int) > 60
              · rw [if_pos hn]; exact congrArg some (decide_eq_false (by unfold GoodP; omega)).symm
              · rw [if_neg hn]
                by_cases h8 : 0 ≤ a8 ∧ a8 ≤ 60
                · rw [if_pos h8]
                  by_cases h7 : 0 ≤ a7 ∧ a7 ≤ a8
                  · rw [if_pos h7]
                    by_cases hz : a8 = 0
                    · rw [if_pos hz]; exact congrArg some (decide_eq_true (by unfold GoodP; omega)).symm
                    · rw [if_neg hz]
                      by_cases hp : (a9.size : Int) > 0
                      · rw [if_pos hp, w64 (by omega) (by omega)]
                        refine congrArg some (decide_eq_decide.mpr ?_)
                        unfold GoodP; omega
                      · rw [if_neg hp]; exact congrArg some (decide_eq_false (by unfold GoodP; omega)).symm
                  · rw [if_neg h7]; exact congrArg some (decide_eq_false (by unfold GoodP; omega)).symm
                · rw [if_neg h8]; exact congrArg some (decide_eq_false (by unfold GoodP; omega)).symm
            · rw [if_neg h6]; exact congrArg some (decide_eq_false (by unfold GoodP; omega)).symm
          · rw [if_neg h5]; exact congrArg some (decide_eq_false (by unfold GoodP; omega)).symm
        · rw [if_neg h4]; exact congrArg some (decide_eq_false (by unfold GoodP; omega)).symm
      · rw [if_neg h3]; exact congrArg some (decide_eq_false (by unfold GoodP; omega)).symm
    · rw [if_neg h1]; exact congrArg some (decide_eq_false (by unfold GoodP; omega)).symm
  · rw [if_neg h0]; exact congrArg some (decide_eq_false (by unfold GoodP; omega)).symm
theorem implWithin (a b c : Int) : impl_within.f a b c = some (decide (b ≤ a ∧ a ≤ c)) := by
  unfold impl_within.f
  by_cases h : b ≤ a <;> simp [h]
theorem implGood_no (a0 a1 : Int) (a2 : Bool) (a3 a4 a5 a6 a7 a8 : Int) (a9 : ByteArray) : Ev (fun k => impl_GoodBundle.j0 k true a0 a1 a2 a3 a4 a5 a6 a7 a8 a9) false := by
  refine Ev.step (fun k => by rw [impl_GoodBundle.j0]) ?_
  exact Ev.ite_pos rfl (Ev.now _)
theorem isEmpty_size (s : ByteArray) : s.toList.isEmpty = decide (s.size = 0) := by
  rw [ByteArray.toList_eq, ← size_data]
  cases s.data.toList <;> simp
theorem implGood_end (a0 a1 : Int) (a2 : Bool) (a3 a4 a5 a6 a7 a8 : Int) (a9 : ByteArray) (h8 : -9223372036854775808 ≤ a8 ∧ a8 ≤ 9223372036854775807) (h : a9.size ≤ 60) :
    Ev (fun k => impl_GoodBundle.j0 k (decide ((a9.size : Int) > 60)) a0 a1 a2 a3 a4 a5 a6 a7 a8 a9) (decide ((a8 = 0 ∧ a7 = 0) ∨ (1 ≤ a8 ∧ a8 ≤ 60 ∧ 0 ≤ a7 ∧ a7 + a9.size ≤ a8 ∧ 0 < a9.size))) := by
  rw [decide_eq_false (show ¬ (a9.size : Int) > 60 by omega)]
  refine Ev.step (fun k => by rw [impl_GoodBundle.j0]) ?_
  refine Ev.ite_neg (by simp) ?_
  by_cases hz : a8 = 0
  · refine Ev.ite_pos hz (Ev.now' ?_)
    rw [show (a7 == 0) = decide (a7 = 0) from rfl]
    exact decide_eq_decide.mpr (by omega)
  · refine Ev.ite_neg hz ?_
    rw [implWithin, implWithin, isEmpty_size]
    simp only [Option.bind_some, decide_eq_true_eq]
    by_cases h1 : 1 ≤ a8 ∧ a8 ≤ 60
    · refine Ev.ite_pos h1 ?_
      rw [w64 (by omega) (by omega)]
      by_cases h2 : 0 ≤ a7 ∧ a7 ≤ a8 - (a9.size : Int)
      · refine Ev.ite_pos h2 (Ev.now' ?_)
        by_cases h3 : a9.size = 0
        · rw [decide_eq_true h3, decide_eq_false (show ¬ _ by omega)]; rfl
        · rw [decide_eq_false h3, decide_eq_true (show _ by omega)]; rfl
      · refine Ev.ite_neg h2 (Ev.now' (decide_eq_false (by omega)).symm)
    · refine Ev.ite_neg h1 (Ev.now' (decide_eq_false (by omega)).symm)
theorem implGood (a0 a1 : Int) (a2 : Bool) (a3 a4 a5 a6 a7 a8 : Int) (a9 : ByteArray) (h8 : -9223372036854775808 ≤ a8 ∧ a8 ≤ 9223372036854775807) :
    Ev (fun k => impl_GoodBundle.f k a0 a1 a2 a3 a4 a5 a6 a7 a8 a9) (decide (GoodP a0 a1 a3 a4 a5 a6 a7 a8 a9.size)) := by
  have no : ¬ GoodP a0 a1 a3 a4 a5 a6 a7 a8 a9.size → Ev (fun k => impl_GoodBundle.j0 k true a0 a1 a2 a3 a4 a5 a6 a7 a8 a9) (decide (GoodP a0 a1 a3 a4 a5 a6 a7 a8 a9.size)) := fun h => by
    rw [decide_eq_false h]; exact implGood_no ..
  simp only [impl_GoodBundle.f, implWithin, Option.bind_some, decide_eq_true_eq]
  refine Ev.ite (fun h0 => ?_) fun h => no (by unfold GoodP; omega)
  refine Ev.ite (fun h1 => ?_) fun h => no (by unfold GoodP; omega)
  refine Ev.ite (fun h3 => ?_) fun h => no (by unfold GoodP; omega)
  refine Ev.ite (fun h4 => ?_) fun h => no (by unfold GoodP; omega)
  refine Ev.ite (fun h5 => ?_) fun h => no (by unfold GoodP; omega)
  refine Ev.ite (fun h6 => ?_) fun h => no (by unfold GoodP; omega)
  by_cases hn : a9.size ≤ 60
  · have e : decide (GoodP a0 a1 a3 a4 a5 a6 a7 a8 a9.size) = decide ((a8 = 0 ∧ a7 = 0) ∨ (1 ≤ a8 ∧ a8 ≤ 60 ∧ 0 ≤ a7 ∧ a7 + a9.size ≤ a8 ∧ 0 < a9.size)) :=
      decide_eq_decide.mpr (by unfold GoodP; omega)
    rw [e]
    exact implGood_end a0 a1 a2 a3 a4 a5 a6 a7 a8 a9 h8 hn
  · rw [decide_eq_true (show (a9.size : Int) > 60 by omega)]
    exact no (by unfold GoodP; omega)
def SignsFrom (s : ByteArray) (i : Nat) : Prop := ∀ j : Nat, i ≤ j → j < s.size → 32 ≤ bt s (j : Int) ∧ bt s (j : Int) ≤ 126
theorem SignsFrom.step {s : ByteArray} {i : Nat} (h : i < s.size) : SignsFrom s i ↔ (32 ≤ bt s (i : Int) ∧ bt s (i : Int) ≤ 126) ∧ SignsFrom s (i + 1) := by
  constructor
  · exact fun H => ⟨H i (by omega) h, fun j h1 h2 => H j (by omega) h2⟩
  · rintro ⟨a, b⟩ j h1 h2
    by_cases e : j = i
    · subst e; exact a
    · exact b j (by omega) h2
def OkItem (f0 f1 : Int) (f2 : ByteArray) (f3 : Int) : Prop :=
  (f0 = 1 ∧ 0 ≤ f1 ∧ f1 ≤ 1000000000 ∧ f2.size = 0 ∧ f3 = 0) ∨ (f0 = 2 ∧ f2.size ≤ 60 ∧ f1 = 0 ∧ f3 = 0) ∨ (f0 = 3 ∧ SignsFrom f2 0 ∧ f2.size ≤ 60 ∧ f1 = 0 ∧ f3 = 0) ∨ (f0 = 4 ∧ 0 ≤ f3 ∧ f3 ≤ 40 ∧ f1 = 0 ∧ f2.size = 0)
theorem toList_nil_iff (s : ByteArray) : s.toList = ([] : List UInt8) ↔ s.size = 0 := by
  rw [ByteArray.toList_eq, ← size_data, List.length_eq_zero_iff]
def OkAt (l : List S63) (i : Nat) : Prop := OkItem (rd_T63 l (i : Int)).f0 (rd_T63 l (i : Int)).f1 (rd_T63 l (i : Int)).f2 (rd_T63 l (i : Int)).f3
def headNums (m n : Int) : List Int :=
  if n < 24 then [(32 * m + n) % 256] else if n < 256 then [(32 * m + 24) % 256, n % 256] else if n < 65536 then [(32 * m + 25) % 256, n / 256 % 256, n % 256]
  else [(32 * m + 26) % 256, n / 16777216 % 256, n / 65536 % 256, n / 256 % 256, n % 256]
def headText (m n : Int) : ByteArray := strOfNums (headNums m n)
theorem headNums_len (m n : Int) : 1 ≤ (headNums m n).length ∧ (headNums m n).length ≤ 5 := by
  unfold headNums
  split
  · simp
  · split
    · simp
    · split <;> simp
theorem implHead (m n : Int) (h0 : 0 ≤ m) (h1 : m ≤ 7) (h2 : 0 ≤ n) (h3 : n ≤ 4294967295) : impl_head.f m n = some (headText m n) := by
  have e : wrap64 (32 * m) = 32 * m := w64 (by omega) (by omega)
  unfold impl_head.f headText headNums
  rw [e]
  by_cases a : n < 24
  · rw [if_pos a, if_pos a]; congr 2; simp
  · rw [if_neg a, if_neg a]
    by_cases b : n < 256
    · rw [if_pos b, if_pos b]; congr 2; simp
    · rw [if_neg b, if_neg b]
      by_cases c : n < 65536
      · rw [if_pos c, if_pos c]; congr 2; simp
      · rw [if_neg c, if_neg c]; congr 2; simp
theorem specNumber1 (n : Int) : Ev (fun k => spec_l2Number.f k n 1) (strOfNums [n % 256]) := by
  have w0 : wrap64 (1 - 1) = 0 := by unfold wrap64; omega
  have w1 : wrap64 (0 - 1) = -1 := by unfold wrap64; omega
  simp only [spec_l2Number.f, if_pos (show (0 : Int) ≤ 1 by decide), if_pos (show (1 : Int).toNat ≤ 281474976710656 by decide), w0]
  refine Ev.step (fun k => by rw [spec_l2Number.l0]) ?_
  refine Ev.ite_pos (by decide) (Ev.ite_pos (by decide) (Ev.ite_pos (by decide) ?_))
  rw [w1]
  refine Ev.step (fun k => by rw [spec_l2Number.l0]) ?_
  refine Ev.ite_neg (by decide) ?_
  exact Ev.now' rfl
theorem specNumber2 (n : Int) : Ev (fun k => spec_l2Number.f k n 2) (strOfNums [n / 256 % 256, n % 256]) := by
  have w0 : wrap64 (2 - 1) = 1 := by unfold wrap64; omega
  have w1 : wrap64 (1 - 1) = 0 := by unfold wrap64; omega
  have w2 : wrap64 (0 - 1) = -1 := by unfold wrap64; omega
  simp only [spec_l2Number.f, if_pos (show (0 : Int) ≤ 2 by decide), if_pos (show (2 : Int).toNat ≤ 281474976710656 by decide), w0]
  refine Ev.step (fun k => by rw [spec_l2Number.l0]) ?_
  refine Ev.ite_pos (by decide) (Ev.ite_pos (by decide) (Ev.ite_pos (by decide) ?_))
  rw [w1]
  refine Ev.step (fun k => by rw [spec_l2Number.l0]) ?_
  refine Ev.ite_pos (by decide) (Ev.ite_pos (by decide) (Ev.ite_pos (by simp [List.replicate]) ?_))
  rw [w2]
  refine Ev.step (fun k => by rw [spec_l2Number.l0]) ?_
  refine Ev.ite_neg (by decide) ?_
  exact Ev.now' rfl
theorem specNumber4 (n : Int) (h : 0 ≤ n) : Ev (fun k => spec_l2Number.f k n 4) (strOfNums [n / 16777216 % 256, n / 65536 % 256, n / 256 % 256, n % 256]) := by
  have w0 : wrap64 (4 - 1) = 3 := by unfold wrap64; omega
  have w1 : wrap64 (3 - 1) = 2 := by unfold wrap64; omega
  have w2 : wrap64 (2 - 1) = 1 := by unfold wrap64; omega
  have w3 : wrap64 (1 - 1) = 0 := by unfold wrap64; omega
  have w4 : wrap64 (0 - 1) = -1 := by unfold wrap64; omega
  have e1 : n / 256 / 256 = n / 65536 := by omega
  have e2 : n / 65536 / 256 = n / 16777216 := by omega
  simp only [spec_l2Number.f, if_pos (show (0 : Int) ≤ 4 by decide), if_pos (show (4 : Int).toNat ≤ 281474976710656 by decide), w0]
  refine Ev.step (fun k => by rw [spec_l2Number.l0]) ?_
  refine Ev.ite_pos (by decide) (Ev.ite_pos (by decide) (Ev.ite_pos (by decide) ?_))
  rw [w1]
  refine Ev.step (fun k => by rw [spec_l2Number.l0]) ?_
  refine Ev.ite_pos (by decide) (Ev.ite_pos (by decide) (Ev.ite_pos (by simp [List.replicate]) ?_))
  rw [w2]
  refine Ev.step (fun k => by rw [spec_l2Number.l0]) ?_
  refine Ev.ite_pos (by decide) (Ev.ite_pos (by decide) (Ev.ite_pos (by simp [List.replicate]) ?_))
  rw [w3]
  refine Ev.step (fun k => by rw [spec_l2Number.l0]) ?_
  refine Ev.ite_pos (by decide) (Ev.ite_pos (by decide) (Ev.ite_pos (by simp [List.replicate]) ?_))
  rw [w4]
  refine Ev.step (fun k => by rw [spec_l2Number.l0]) ?_
  refine Ev.ite_neg (by decide) ?_
  rw [e1, e2]
  exact Ev.now' rfl
theorem specHead (m n : Int) (h0 : 0 ≤ m) (h1 : m ≤ 7) (h2 : 0 ≤ n) (h3 : n ≤ 4294967295) : Ev (fun k => spec_l2Head.f k m n) (headText m n) := by
  have e : wrap64 (32 * m) = 32 * m := w64 (by omega) (by omega)
  unfold headText headNums
  simp only [spec_l2Head.f, e]
  by_cases a : n < 24
  · simp only [if_pos a, w64 (show -9223372036854775808 ≤ 32 * m + n by omega) (show 32 * m + n ≤ 9223372036854775807 by omega)]
    exact Ev.bind (specNumber1 _) (Ev.now _)
  · simp only [if_neg a]
    by_cases b : n < 256
    · simp only [if_pos b, w64 (show -9223372036854775808 ≤ 32 * m + 24 by omega) (show 32 * m + 24 ≤ 9223372036854775807 by omega)]
      refine Ev.bind (specNumber1 _) (Ev.bind (specNumber1 _) ?_)
      simp only [strOfNums_size]
      refine Ev.ite_pos (by simp) ?_
      exact Ev.now' (by rw [← strOfNums_append]; rfl)
    · simp only [if_neg b]
      by_cases c : n < 65536
      · simp only [if_pos c, w64 (show -9223372036854775808 ≤ 32 * m + 25 by omega) (show 32 * m + 25 ≤ 9223372036854775807 by omega)]
        refine Ev.bind (specNumber1 _) (Ev.bind (specNumber2 _) ?_)
        simp only [strOfNums_size]
        refine Ev.ite_pos (by simp) ?_
        exact Ev.now' (by rw [← strOfNums_append]; rfl)
      · simp only [if_neg c, w64 (show -9223372036854775808 ≤ 32 * m + 26 by omega) (show 32 * m + 26 ≤ 9223372036854775807 by omega)]
        refine Ev.bind (specNumber1 _) (Ev.bind (specNumber4 _ (by omega)) ?_)
        simp only [strOfNums_size]
        refine Ev.ite_pos (by simp) ?_
        exact Ev.now' (by rw [← strOfNums_append]; rfl)
def itemText (f0 f1 : Int) (f2 : ByteArray) (f3 : Int) : ByteArray :=
  if f0 = 1 then headText 0 f1 else if f0 = 2 then headText 2 (f2.size : Int) ++ f2 else if f0 = 3 then headText 3 (f2.size : Int) ++ f2 else headText 4 f3
def itemsText : List S63 → ByteArray
  | [] => ⟨#[]⟩
  | x :: l => itemText x.f0 x.f1 x.f2 x.f3 ++ itemsText l
theorem headText_size (m n : Int) : 1 ≤ (headText m n).size ∧ (headText m n).size ≤ 5 := by
  have := headNums_len m n
  unfold headText
  rw [strOfNums_size]
  exact this
theorem itemText_size {f0 f1 : Int} {f2 : ByteArray} {f3 : Int} (h : OkItem f0 f1 f2 f3) : (itemText f0 f1 f2 f3).size ≤ 65 := by
  have := headText_size 0 f1
  have := headText_size 2 (f2.size : Int)
  have := headText_size 3 (f2.size : Int)
  have := headText_size 4 f3
  unfold OkItem at h
  unfold itemText
  split
  · omega
  · split
    · rw [ByteArray.size_append]; omega
    · split
      · rw [ByteArray.size_append]; omega
      · omega
theorem append_empty (s : ByteArray) : s ++ (⟨#[]⟩ : ByteArray) = s := by
  apply str_ext
  simp
theorem append_assoc' (a b c : ByteArray) : a ++ b ++ c = a ++ (b ++ c) := by
  apply str_ext
  simp
theorem rdT_eq (l : List S63) (i : Nat) (h : i < l.length) : rd_T63 l (i : Int) = l[i] := by
  simp [rd_T63, List.getD_eq_getElem?_getD, List.getElem?_eq_getElem h]
theorem bytes_go (l : List S63) (hl : l.length ≤ 1048576) (ok : ∀ i : Nat, i < l.length → OkAt l i) (d : Nat) : ∀ (i : Nat) (t : ByteArray), i ≤ l.length → l.length - i = d → t.size ≤ 65 * i →
    Ev (fun k => spec_l2Bytes.l0 k t l (l.length : Int) (i : Int)) (t ++ itemsText (l.drop i)) ∧ Ev (fun k => impl_itemsBytes.l0 k t l (l.length : Int) (i : Int)) (t ++ itemsText (l.drop i)) := by
  induction d with
  | zero =>
    intro i t h0 hd ht
    rw [List.drop_eq_nil_of_le (by omega)]
    simp only [itemsText, append_empty]
    constructor
    · refine Ev.step (fun k => by rw [spec_l2Bytes.l0]) ?_
      exact Ev.ite_neg (by omega) (Ev.now _)
    · refine Ev.step (fun k => by rw [impl_itemsBytes.l0]) ?_
      exact Ev.ite_neg (by omega) (Ev.now _)
  | succ d ih =>
    intro i t h0 hd ht
    have hi : i < l.length := by omega
    have hok := ok i hi
    have hsz := itemText_size hok
    have hw : wrap64 ((i : Int) + 1) = ((i + 1 : Nat) : Int) := by rw [w64 (by omega) (by omega)]; omega
    have hp : (i : Int) < (l.length : Int) := by omega
    have hz : (0 : Int) ≤ (i : Int) := by omega
    have hx := rdT_eq l i hi
    obtain ⟨a, b⟩ := ih (i + 1) (t ++ itemText l[i].f0 l[i].f1 l[i].f2 l[i].f3) (by omega) (by omega) (by rw [ByteArray.size_append]; rw [hx] at hsz; omega)
    rw [List.drop_eq_getElem_cons hi]
    simp only [itemsText, ← append_assoc']
    unfold OkAt at hok
    have s2 := headText_size 2 (l[i].f2.size : Int)
    have s3 := headText_size 3 (l[i].f2.size : Int)
    have s1 := headText_size 0 l[i].f1
    have s4 := headText_size 4 l[i].f3
    constructor
    · refine Ev.step (fun k => by rw [spec_l2Bytes.l0]) ?_
      refine Ev.ite_pos hp (Ev.ite_pos hz (Ev.ite_pos hp ?_))
      rw [hx] at hok ⊢
      revert hok a
      generalize l[i] = x at s1 s2 s3 s4
      intro hok a
      rw [hw]
      unfold OkItem at hok
      unfold itemText at a ⊢
      by_cases h1 : x.f0 = 1
      · rw [if_pos h1] at a ⊢
        exact Ev.ite_pos h1 (Ev.bind (specHead 0 x.f1 (by omega) (by omega) (by omega) (by omega)) (Ev.ite_pos (by omega) a))
      · rw [if_neg h1] at a ⊢
        refine Ev.ite_neg h1 ?_
        by_cases h2 : x.f0 = 2
        · rw [if_pos h2] at a ⊢
          exact Ev.ite_pos h2 (Ev.bind (specHead 2 (x.f2.size : Int) (by omega) (by omega) (by omega) (by omega)) (Ev.ite_pos (by omega) (Ev.ite_pos (by omega) a)))
        · rw [if_neg h2] at a ⊢
          refine Ev.ite_neg h2 ?_
          by_cases h3 : x.f0 = 3
          · rw [if_pos h3] at a ⊢
            exact Ev.ite_pos h3 (Ev.bind (specHead 3 (x.f2.size : Int) (by omega) (by omega) (by omega) (by omega)) (Ev.ite_pos (by omega) (Ev.ite_pos (by omega) a)))
          · rw [if_neg h3] at a ⊢
            exact Ev.ite_neg h3 (Ev.bind (specHead 4 x.f3 (by omega) (by omega) (by omega) (by omega)) (Ev.ite_pos (by omega) a))
    · refine Ev.step (fun k => by rw [impl_itemsBytes.l0]) ?_
      refine Ev.ite_pos hp (Ev.ite_pos hz (Ev.ite_pos hp ?_))
      rw [hx] at hok ⊢
      revert hok b
      generalize l[i] = x at s1 s2 s3 s4
      intro hok b
      rw [hw]
      unfold OkItem at hok
      unfold itemText at b ⊢
      by_cases h1 : x.f0 = 1
      · rw [if_pos h1] at b ⊢
        exact Ev.ite_pos h1 (Ev.opt_bind (implHead 0 x.f1 (by omega) (by omega) (by omega) (by omega)) (Ev.ite_pos (by omega) b))
      · rw [if_neg h1] at b ⊢
        refine Ev.ite_neg h1 ?_
        by_cases h2 : x.f0 = 2
        · rw [if_pos h2] at b ⊢
          exact Ev.ite_pos h2 (Ev.opt_bind (implHead 2 (x.f2.size : Int) (by omega) (by omega) (by omega) (by omega)) (Ev.ite_pos (by omega) (Ev.ite_pos (by omega) b)))
        · rw [if_neg h2] at b ⊢
          refine Ev.ite_neg h2 ?_
          by_cases h3 : x.f0 = 3
          · rw [if_pos h3] at b ⊢
            exact Ev.ite_pos h3 (Ev.opt_bind (implHead 3 (x.f2.size : Int) (by omega) (by omega) (by omega) (by omega)) (Ev.ite_pos (by omega) (Ev.ite_pos (by omega) b)))
          · rw [if_neg h3] at b ⊢
            exact Ev.ite_neg h3 (Ev.ite_pos (by omega) (Ev.opt_bind (implHead 4 x.f3 (by omega) (by omega) (by omega) (by omega)) (Ev.ite_pos (by omega) b)))
theorem empty_append (s : ByteArray) : (⟨#[]⟩ : ByteArray) ++ s = s := by
  apply str_ext
  simp
theorem bytes_both (l : List S63) (hl : l.length ≤ 1048576) (ok : ∀ i : Nat, i < l.length → OkAt l i) : Ev (fun k => spec_l2Bytes.f k l) (itemsText l) ∧ Ev (fun k => impl_itemsBytes.f k l) (itemsText l) := by
  have := bytes_go l hl ok l.length 0 (⟨#[]⟩ : ByteArray) (by omega) (by omega) (by decide)
  simp only [List.drop_zero, empty_append] at this
  simp only [spec_l2Bytes.f, impl_itemsBytes.f]
  exact this
theorem crc_go (n : Nat) : ∀ (x : Nat) (i : Int), x < 65536 → 0 ≤ i → i ≤ 8 → 8 - i = n → Ev (fun k => spec_l1Crc.l0 k (x : Int) i) (crcRounds n x : Int) ∧ Ev (fun k => impl_crcAdd.l0 k (x : Int) i) (crcRounds n x : Int) := by
  induction n with
  | zero =>
    intro x i hx h0 h1 hn
    constructor
    · refine Ev.step (fun k => by rw [spec_l1Crc.l0]) ?_
      simp only [if_neg (show ¬ i < 8 by omega), crcRounds]
      exact Ev.now _
    · refine Ev.step (fun k => by rw [impl_crcAdd.l0]) ?_
      simp only [if_neg (show ¬ i < 8 by omega), crcRounds]
      exact Ev.now _
  | succ n ih =>
    intro x i hx h0 h1 hn
    have hw : wrap64 (i + 1) = i + 1 := w64 (by omega) (by omega)
    have hw2 : wrap64 ((x : Int) * 2) = ((2 * x : Nat) : Int) := by rw [w64 (by omega) (by omega)]; omega
    obtain ⟨a, b⟩ := ih (crcRound x) (i + 1) (crcRound_lt hx) (by omega) (by omega) (by omega)
    have e : (if ((2 * x : Nat) : Int) > 65535 then Go.bits .xor .i64 ((2 * x : Nat) : Int) 69665 else ((2 * x : Nat) : Int)) = (crcRound x : Int) := by
      unfold crcRound
      by_cases h : 65535 < 2 * x
      · rw [if_pos (by omega), if_pos h]
        exact xor_i64 (2 * x) 69665 (by omega) (by omega)
      · rw [if_neg (by omega), if_neg h]
    constructor
    · refine Ev.step (fun k => by rw [spec_l1Crc.l0]) ?_
      simp only [if_pos (show i < 8 by omega), hw, hw2]
      by_cases h : ((2 * x : Nat) : Int) > 65535
      · simp only [if_pos h] at e ⊢
        rw [e]; simpa only [crcRounds] using a
      · simp only [if_neg h] at e ⊢
        rw [e]; simpa only [crcRounds] using a
    · refine Ev.step (fun k => by rw [impl_crcAdd.l0]) ?_
      simp only [if_pos (show i < 8 by omega), hw, hw2]
      by_cases h : ((2 * x : Nat) : Int) > 65535
      · simp only [if_pos h] at e ⊢
        rw [e]; simpa only [crcRounds] using b
      · simp only [if_neg h] at e ⊢
        rw [e]; simpa only [crcRounds] using b
theorem crc_one (x b : Nat) (hx : x < 65536) (hb : b < 256) : Ev (fun k => spec_l1Crc.f k (x : Int) (b : Int)) (crcByte x b : Int) ∧ Ev (fun k => impl_crcAdd.f k (x : Int) (b : Int)) (crcByte x b : Int) := by
  have := crc_go 8 (x ^^^ (b * 256)) 0 (xor_byte_lt hx hb) (by omega) (by omega) (by omega)
  simp only [spec_l1Crc.f, impl_crcAdd.f, w64 (show -9223372036854775808 ≤ (b : Int) by omega) (show (b : Int) ≤ 9223372036854775807 by omega)]
  have e1 : wrap64 ((b : Int) * 256) = ((b * 256 : Nat) : Int) := by rw [w64 (by omega) (by omega)]; omega
  have e2 : wrap64 (256 * (b : Int)) = ((b * 256 : Nat) : Int) := by rw [w64 (by omega) (by omega)]; omega
  rw [e1, e2, xor_i64 x (b * 256) (by omega) (by omega)]
  exact this
theorem crcOf_go (s : ByteArray) (hs : s.size ≤ 4611686018427387904) (n : Nat) : ∀ (x i : Nat), x < 65536 → i ≤ s.size → s.size - i = n →
    Ev (fun k => spec_l1CrcOf.l0 k s (x : Int) (i : Int)) (crcOver x (s.data.toList.drop i) : Int) ∧ Ev (fun k => impl_crcOf.l0 k s (x : Int) (s.size : Int) (i : Int)) (crcOver x (s.data.toList.drop i) : Int) := by
  induction n with
  | zero =>
    intro x i hx h0 hn
    have e : s.data.toList.drop i = [] := List.drop_eq_nil_of_le (by rw [size_data]; omega)
    rw [e]
    constructor
    · refine Ev.step (fun k => by rw [spec_l1CrcOf.l0]) ?_
      simp only [if_neg (show ¬ (i : Int) < (s.size : Int) by omega)]
      exact Ev.now _
    · refine Ev.step (fun k => by rw [impl_crcOf.l0]) ?_
      simp only [if_neg (show ¬ (i : Int) < (s.size : Int) by omega)]
      exact Ev.now _
  | succ n ih =>
    intro x i hx h0 hn
    have hi : i < s.size := by omega
    have hw : wrap64 ((i : Int) + 1) = ((i + 1 : Nat) : Int) := by rw [w64 (by omega) (by omega)]; omega
    have hb : bt s (i : Int) = (s[i].toNat : Int) := by simp [bt, hi]
    have e : s.data.toList.drop i = s[i] :: s.data.toList.drop (i + 1) := List.drop_eq_getElem_cons (by rw [size_data]; exact hi)
    obtain ⟨p, q⟩ := crc_one x s[i].toNat hx s[i].toNat_lt
    obtain ⟨a, b⟩ := ih (crcByte x s[i].toNat) (i + 1) (crcByte_lt hx s[i].toNat_lt) (by omega) (by omega)
    rw [e]
    simp only [crcOver, List.foldl_cons] at a b ⊢
    constructor
    · refine Ev.step (fun k => by rw [spec_l1CrcOf.l0]) ?_
      simp only [if_pos (show (i : Int) < (s.size : Int) by omega), if_pos (show (0 : Int) ≤ (i : Int) by omega), hw, hb]
      exact Ev.bind p a
    · refine Ev.step (fun k => by rw [impl_crcOf.l0]) ?_
      simp only [if_pos (show (i : Int) < (s.size : Int) by omega), if_pos (show (0 : Int) ≤ (i : Int) by omega), hw, hb]
      exact Ev.bind q b
def crcText (s : ByteArray) : Nat := crcOver 65535 s.data.toList
theorem crcText_lt (s : ByteArray) : crcText s < 65536 := crcOver_lt _ (by omega)
theorem crcOf_both (s : ByteArray) (hs : s.size ≤ 4611686018427387904) : Ev (fun k => spec_l1CrcOf.f k s) (crcText s : Int) ∧ Ev (fun k => impl_crcOf.f k s) (crcText s : Int) := by
  simp only [spec_l1CrcOf.f, impl_crcOf.f]
  exact crcOf_go s hs s.size 65535 0 (by omega) (by omega) (by omega)
def withSum (s : ByteArray) : ByteArray := s ++ strOfNums [(crcText s : Int) / 256 % 256, (crcText s : Int) % 256]
theorem specWith (s : ByteArray) (hs : s.size ≤ 4611686018427387904) : Ev (fun k => spec_l1With.f k s) (withSum s) := by
  simp only [spec_l1With.f]
  refine Ev.bind (crcOf_both s hs).1 ?_
  refine Ev.some_bind ?_
  simp only [strOfNums_size]
  refine Ev.ite_pos (by simp; omega) ?_
  exact Ev.now _
theorem implWith (s : ByteArray) (hs : s.size ≤ 398) : Ev (fun k => impl_WithCrc.f k s) (withSum s, true) := by
  simp only [impl_WithCrc.f]
  refine Ev.ite_neg (by omega) ?_
  refine Ev.bind (crcOf_both s (by omega)).2 ?_
  have e : ([wrap64 (Int.tdiv (crcText s : Int) 256) % 256, Int.tmod (crcText s : Int) 256 % 256] : List Int) = [(crcText s : Int) / 256 % 256, (crcText s : Int) % 256] := by
    have h := crcText_lt s
    rw [Int.tdiv_eq_ediv_of_nonneg (by omega), Int.tmod_eq_emod_of_nonneg (by omega), w64 (by omega) (by omega), Int.emod_emod]
  rw [e]
  refine Ev.some_bind ?_
  simp only [strOfNums_size]
  refine Ev.ite_pos (by simp; omega) ?_
  exact Ev.now _
def bundleNums (a0 a1 : Int) (a2 : Bool) (a3 a4 a5 a6 a7 a8 : Int) : List Int := [a0, a1, if a2 = true then 1 else 0, a3, a4, a5, a6, a7, a8]
def bundleItems (a0 a1 : Int) (a2 : Bool) (a3 a4 a5 a6 a7 a8 : Int) (a9 : ByteArray) : List S63 :=
  (⟨4, 0, (⟨#[]⟩ : ByteArray), 10⟩ : S63) :: ((bundleNums a0 a1 a2 a3 a4 a5 a6 a7 a8).map (fun n => (⟨1, n, (⟨#[]⟩ : ByteArray), 0⟩ : S63)) ++ [(⟨2, 0, a9, 0⟩ : S63)])
theorem l3Items_go (a0 a1 : Int) (a2 : Bool) (a3 a4 a5 a6 a7 a8 : Int) (a9 : ByteArray) (ns : List Int) (hn : ns.length ≤ 9) (d : Nat) : ∀ (x : List S63) (i : Nat), i ≤ ns.length → ns.length - i = d → x.length ≤ 1 + i →
    Ev (fun k => spec_l3Items.l0 k x ns (ns.length : Int) (i : Int) a0 a1 a2 a3 a4 a5 a6 a7 a8 a9) (x ++ ((ns.drop i).map (fun n => (⟨1, n, (⟨#[]⟩ : ByteArray), 0⟩ : S63)) ++ [(⟨2, 0, a9, 0⟩ : S63)])) := by
  induction d with
  | zero =>
    intro x i h0 hd hx
    rw [List.drop_eq_nil_of_le (by omega)]
    refine Ev.step (fun k => by rw [spec_l3Items.l0]) ?_
    exact Ev.ite_neg (by omega) (Ev.ite_pos (by omega) (Ev.now _))
  | succ d ih =>
    intro x i h0 hd hx
    have hi : i < ns.length := by omega
    have hw : wrap64 ((i : Int) + 1) = ((i + 1 : Nat) : Int) := by rw [w64 (by omega) (by omega)]; omega
    have a := ih (x ++ [(⟨1, ns[i], (⟨#[]⟩ : ByteArray), 0⟩ : S63)]) (i + 1) (by omega) (by omega) (by simp; omega)
    rw [List.drop_eq_getElem_cons hi]
    refine Ev.step (fun k => by rw [spec_l3Items.l0]) ?_
    refine Ev.ite_pos (by omega) (Ev.ite_pos (by omega) (Ev.ite_pos (by omega) (Ev.ite_pos (by omega) ?_)))
    rw [hw, rd_eq ns i hi]
    rw [List.append_assoc, List.singleton_append] at a
    rw [List.map_cons, List.cons_append]
    exact a
theorem specItems (a0 a1 : Int) (a2 : Bool) (a3 a4 a5 a6 a7 a8 : Int) (a9 : ByteArray) : Ev (fun k => spec_l3Items.f k a0 a1 a2 a3 a4 a5 a6 a7 a8 a9) (bundleItems a0 a1 a2 a3 a4 a5 a6 a7 a8 a9) := by
  have go : ∀ g : Int, g = (if a2 = true then 1 else 0) → Ev (fun k => spec_l3Items.j0 k g a0 a1 a2 a3 a4 a5 a6 a7 a8 a9) (bundleItems a0 a1 a2 a3 a4 a5 a6 a7 a8 a9) := by
    intro g hg
    refine Ev.step (fun k => by rw [spec_l3Items.j0]) ?_
    refine Ev.some_bind ?_
    have := l3Items_go a0 a1 a2 a3 a4 a5 a6 a7 a8 a9 (bundleNums a0 a1 a2 a3 a4 a5 a6 a7 a8) (by simp [bundleNums]) 9 [(⟨4, 0, (⟨#[]⟩ : ByteArray), 10⟩ : S63)] 0 (by omega) (by simp [bundleNums]) (by simp)
    rw [hg]
    exact this
  simp only [spec_l3Items.f]
  refine Ev.ite (fun h => go 1 (by rw [if_pos h])) fun h => go 0 (by rw [if_neg h])
theorem bundleItems_ok {a0 a1 : Int} {a2 : Bool} {a3 a4 a5 a6 a7 a8 : Int} {a9 : ByteArray} (h : GoodP a0 a1 a3 a4 a5 a6 a7 a8 a9.size) : ∀ i : Nat, i < (bundleItems a0 a1 a2 a3 a4 a5 a6 a7 a8 a9).length → OkAt (bundleItems a0 a1 a2 a3 a4 a5 a6 a7 a8 a9) i := by
  intro i hi
  unfold OkAt
  rw [rdT_eq _ i hi]
  have num : ∀ n : Int, 0 ≤ n → n ≤ 1000000000 → OkItem 1 n (⟨#[]⟩ : ByteArray) 0 := fun n a b => .inl ⟨rfl, a, b, rfl, rfl⟩
  have : ∀ x ∈ bundleItems a0 a1 a2 a3 a4 a5 a6 a7 a8 a9, OkItem x.f0 x.f1 x.f2 x.f3 := by
    intro x hx
    unfold GoodP at h
    simp only [bundleItems, bundleNums, List.map_cons, List.map_nil, List.cons_append, List.nil_append, List.mem_cons, List.not_mem_nil, or_false] at hx
    rcases hx with rfl | rfl | rfl | rfl | rfl | rfl | rfl | rfl | rfl | rfl | rfl
    · exact .inr (.inr (.inr ⟨rfl, (by decide : (0 : Int) ≤ 10), (by decide : (10 : Int) ≤ 40), rfl, rfl⟩))
    · exact num a0 (by omega) (by omega)
    · exact num a1 (by omega) (by omega)
    · exact num (if a2 = true then 1 else 0) (by split <;> omega) (by split <;> omega)
    · exact num a3 (by omega) (by omega)
    · exact num a4 (by omega) (by omega)
    · exact num a5 (by omega) (by omega)
    · exact num a6 (by omega) (by omega)
    · exact num a7 (by omega) (by omega)
    · exact num a8 (by omega) (by omega)
    · exact .inr (.inl ⟨rfl, (by omega : a9.size ≤ 60), rfl, rfl⟩)
  exact this _ (List.getElem_mem hi)
theorem bundleText_size {a0 a1 : Int} {a2 : Bool} {a3 a4 a5 a6 a7 a8 : Int} {a9 : ByteArray} (h : a9.size ≤ 60) : (itemsText (bundleItems a0 a1 a2 a3 a4 a5 a6 a7 a8 a9)).size ≤ 398 := by
  have num : ∀ n : Int, (itemText 1 n (⟨#[]⟩ : ByteArray) 0).size ≤ 5 := fun n => by
    simp only [itemText, if_true]; exact (headText_size 0 n).2
  have pay : (itemText 2 0 a9 0).size ≤ 65 := by
    have := headText_size 2 (a9.size : Int)
    simp only [itemText, if_true, if_neg (show ¬ (2 : Int) = 1 by decide), ByteArray.size_append]
    omega
  have lst : (itemText 4 0 (⟨#[]⟩ : ByteArray) 10).size ≤ 5 := (headText_size 4 10).2
  have emp : (⟨#[]⟩ : ByteArray).size = 0 := rfl
  simp only [bundleItems, bundleNums, List.map_cons, List.map_nil, List.cons_append, List.nil_append, itemsText, ByteArray.size_append, emp]
  have n0 := num a0
  have n1 := num a1
  have n2 := num (if a2 = true then 1 else 0)
  have n3 := num a3
  have n4 := num a4
  have n5 := num a5
  have n6 := num a6
  have n7 := num a7
  have n8 := num a8
  omega
def bundleText (a0 a1 : Int) (a2 : Bool) (a3 a4 a5 a6 a7 a8 : Int) (a9 : ByteArray) : ByteArray := withSum (itemsText (bundleItems a0 a1 a2 a3 a4 a5 a6 a7 a8 a9))
theorem bundleItems_len (a0 a1 : Int) (a2 : Bool) (a3 a4 a5 a6 a7 a8 : Int) (a9 : ByteArray) : (bundleItems a0 a1 a2 a3 a4 a5 a6 a7 a8 a9).length = 11 := by simp [bundleItems, bundleNums]
theorem specBundleText {a0 a1 : Int} {a2 : Bool} {a3 a4 a5 a6 a7 a8 : Int} {a9 : ByteArray} (h : GoodP a0 a1 a3 a4 a5 a6 a7 a8 a9.size) : Ev (fun k => spec_l3Bytes.f k a0 a1 a2 a3 a4 a5 a6 a7 a8 a9) (bundleText a0 a1 a2 a3 a4 a5 a6 a7 a8 a9) := by
  have hs : a9.size ≤ 60 := by unfold GoodP at h; omega
  have hz := bundleText_size (a0 := a0) (a1 := a1) (a2 := a2) (a3 := a3) (a4 := a4) (a5 := a5) (a6 := a6) (a7 := a7) (a8 := a8) hs
  simp only [spec_l3Bytes.f]
  refine Ev.bind (specItems ..) (Ev.bind (bytes_both _ (by rw [bundleItems_len]; omega) (bundleItems_ok h)).1 ?_)
  exact Ev.bind (specWith _ (by omega)) (Ev.now _)
theorem implBundle_go (a0 a1 : Int) (a2 : Bool) (a3 a4 a5 a6 a7 a8 : Int) (a9 : ByteArray) (ns : List Int) (hn : ns.length ≤ 9) {r : ByteArray × Bool} (d : Nat) : ∀ (x : List S63) (i : Nat), i ≤ ns.length → ns.length - i = d → x.length ≤ 1 + i →
    Ev (fun k => (impl_itemsBytes.f k (x ++ ((ns.drop i).map (fun n => (⟨1, n, (⟨#[]⟩ : ByteArray), 0⟩ : S63)) ++ [(⟨2, 0, a9, 0⟩ : S63)]))).bind fun t => (impl_WithCrc.f k t).bind fun b => some (b.1, b.2)) r →
    Ev (fun k => impl_BundleBytes.l0 k x ns (ns.length : Int) (i : Int) a0 a1 a2 a3 a4 a5 a6 a7 a8 a9) r := by
  induction d with
  | zero =>
    intro x i h0 hd hx hr
    rw [List.drop_eq_nil_of_le (by omega)] at hr
    refine Ev.step (fun k => by rw [impl_BundleBytes.l0]) ?_
    exact Ev.ite_neg (by omega) (Ev.ite_pos (by omega) hr)
  | succ d ih =>
    intro x i h0 hd hx hr
    have hi : i < ns.length := by omega
    have hw : wrap64 ((i : Int) + 1) = ((i + 1 : Nat) : Int) := by rw [w64 (by omega) (by omega)]; omega
    rw [List.drop_eq_getElem_cons hi] at hr
    have a := ih (x ++ [(⟨1, ns[i], (⟨#[]⟩ : ByteArray), 0⟩ : S63)]) (i + 1) (by omega) (by omega) (by simp; omega) (by
      rw [List.map_cons, List.cons_append] at hr
      rw [List.append_assoc, List.singleton_append]
      exact hr)
    refine Ev.step (fun k => by rw [impl_BundleBytes.l0]) ?_
    refine Ev.ite_pos (by omega) (Ev.ite_pos (by omega) (Ev.ite_pos (by omega) (Ev.ite_pos (by omega) ?_)))
    rw [hw, rd_eq ns i hi]
    exact a
theorem implBundle_val (a0 a1 : Int) (a2 : Bool) (a3 a4 a5 a6 a7 a8 : Int) (a9 : ByteArray) (hb : -9223372036854775808 ≤ a8 ∧ a8 ≤ 9223372036854775807) :
    (GoodP a0 a1 a3 a4 a5 a6 a7 a8 a9.size → Ev (fun k => impl_BundleBytes.f k a0 a1 a2 a3 a4 a5 a6 a7 a8 a9) (bundleText a0 a1 a2 a3 a4 a5 a6 a7 a8 a9, true)) ∧
    (¬ GoodP a0 a1 a3 a4 a5 a6 a7 a8 a9.size → Ev (fun k => impl_BundleBytes.f k a0 a1 a2 a3 a4 a5 a6 a7 a8 a9) ((⟨#[]⟩ : ByteArray), false)) := by
  have g := implGood a0 a1 a2 a3 a4 a5 a6 a7 a8 a9 hb
  constructor
  · intro hg
    rw [decide_eq_true hg] at g
    have hs : a9.size ≤ 60 := by unfold GoodP at hg; omega
    have hz := bundleText_size (a0 := a0) (a1 := a1) (a2 := a2) (a3 := a3) (a4 := a4) (a5 := a5) (a6 := a6) (a7 := a7) (a8 := a8) hs
    have go : ∀ n : Int, n = (if a2 = true then 1 else 0) → Ev (fun k => impl_BundleBytes.j0 k n a0 a1 a2 a3 a4 a5 a6 a7 a8 a9) (bundleText a0 a1 a2 a3 a4 a5 a6 a7 a8 a9, true) := by
      intro n hn
      refine Ev.step (fun k => by rw [impl_BundleBytes.j0]) ?_
      refine Ev.some_bind ?_
      have := implBundle_go (r := (bundleText a0 a1 a2 a3 a4 a5 a6 a7 a8 a9, true)) a0 a1 a2 a3 a4 a5 a6 a7 a8 a9 (bundleNums a0 a1 a2 a3 a4 a5 a6 a7 a8) (by simp [bundleNums]) 9 [(⟨4, 0, (⟨#[]⟩ : ByteArray), 10⟩ : S63)] 0 (by omega) (by simp [bundleNums]) (by simp)
        (Ev.bind (bytes_both (bundleItems a0 a1 a2 a3 a4 a5 a6 a7 a8 a9) (by rw [bundleItems_len]; omega) (bundleItems_ok hg)).2 (Ev.bind (implWith _ hz) (Ev.now _)))
      rw [hn]
      exact this
    simp only [impl_BundleBytes.f]
    refine Ev.bind g (Ev.ite_pos rfl (Ev.ite (fun h => go 1 (by rw [if_pos h])) fun h => go 0 (by rw [if_neg h])))
  · intro hg
    rw [decide_eq_false hg] at g
    simp only [impl_BundleBytes.f]
    exact Ev.bind g (Ev.ite_neg (by simp) (Ev.now _))
theorem specValue (a : Int) : spec_l1Value.f a = some (decide (0 ≤ a ∧ a ≤ 1000000000)) := by
  simp [spec_l1Value.f, specIn]
theorem implValue (a : Int) : impl_isValue.f a = some (decide (0 ≤ a ∧ a ≤ 1000000000)) := by
  simp [impl_isValue.f, implWithin]
def manyOf (t : Nat) : Nat := if t = 24 then 1 else if t = 25 then 2 else if t = 26 then 4 else 0
def byteAt (s : ByteArray) (p : Nat) : Nat := (bt s (p : Int)).toNat
theorem byteAt_eq (s : ByteArray) (p : Nat) : bt s (p : Int) = (byteAt s p : Int) := by
  have := bt_range s (p : Int)
  unfold byteAt
  omega
theorem byteAt_lt (s : ByteArray) (p : Nat) : byteAt s p < 256 := by
  have := bt_range s (p : Int)
  unfold byteAt
  omega
def numAt (s : ByteArray) (p : Nat) : Nat → Nat
  | 0 => 0
  | j + 1 => 256 * numAt s p j + byteAt s (p + j)
theorem numAt_lt (s : ByteArray) (p : Nat) : ∀ j, numAt s p j < 256 ^ j
  | 0 => by simp [numAt]
  | j + 1 => by
    have h := numAt_lt s p j
    have := byteAt_lt s (p + j)
    have e : 256 ^ (j + 1) = 256 * 256 ^ j := by rw [Nat.pow_succ, Nat.mul_comm]
    rw [numAt, e]
    omega
theorem numAt_succ (s : ByteArray) (p j : Nat) : numAt s p (j + 1) = 256 * numAt s p j + byteAt s (p + j) := rfl
theorem numAt_zero (s : ByteArray) (p : Nat) : numAt s p 0 = 0 := rfl
attribute [local irreducible] numAt byteAt
theorem numAt_small (s : ByteArray) (p j : Nat) (h : j ≤ 4) : numAt s p j < 4294967296 :=
  Nat.lt_of_lt_of_le (numAt_lt s p j) (show 256 ^ j ≤ 256 ^ 4 from Nat.pow_le_pow_right (by decide) h)
theorem manyOf_le (t : Nat) : manyOf t ≤ 4 := by
  unfold manyOf
  split
  · omega
  · split
    · omega
    · split <;> omega
theorem w64_succ {x : Nat} (h : x ≤ 4611686018427387904) : wrap64 ((x : Int) + 1) = ((x + 1 : Nat) : Int) := by
  rw [w64 (by omega) (by omega)]
  omega
theorem w64_nat {x : Nat} (h : x ≤ 4611686018427387904) : wrap64 (x : Int) = (x : Int) := w64 (by omega) (by omega)
theorem w64_add {x y : Nat} (h : x + y ≤ 4611686018427387904) : wrap64 ((x : Int) + (y : Int)) = ((x + y : Nat) : Int) := by
  rw [w64 (by omega) (by omega)]
  omega
theorem byte_parts {b : Nat} (h : b < 256) : wrap64 (b : Int) = (b : Int) ∧ Int.tmod (b : Int) 32 = ((b % 32 : Nat) : Int) ∧ wrap64 (Int.tdiv (b : Int) 32) = ((b / 32 : Nat) : Int) := by
  refine ⟨w64_nat (by omega), ?_, ?_⟩
  · rw [Int.tmod_eq_emod_of_nonneg (by omega)]; omega
  · rw [Int.tdiv_eq_ediv_of_nonneg (by omega), w64 (by omega) (by omega)]; omega
theorem wrap_join {x b : Nat} (hx : x < 4294967296) (hb : b < 256) : wrap64 (wrap64 (256 * (x : Int)) + wrap64 (b : Int)) = ((256 * x + b : Nat) : Int) := by
  rw [w64 (x := 256 * (x : Int)) (by omega) (by omega), w64 (x := (b : Int)) (by omega) (by omega), w64 (by omega) (by omega)]
  omega
theorem or_low8_i64 {x y : Int} (h0 : 0 ≤ x) (h1 : x < 9223372036854775807) (hx : x % 256 = 0) (hy0 : 0 ≤ y) (hy1 : y < 256) : Go.bits .or .i64 x y = x + y :=
  bits_join .i64 63 (by decide) i64_wraps 8 x y h0 (by simpa using hx) (by omega) hy0 (by simpa using hy1) (by omega)
theorem or_join {x b : Nat} (hx : x < 4294967296) (hb : b < 256) : Go.bits .or .i64 (wrap64 ((x : Int) * 256)) (wrap64 (b : Int)) = ((256 * x + b : Nat) : Int) := by
  rw [w64 (x := (b : Int)) (by omega) (by omega), w64 (by omega) (by omega), or_low8_i64 (by omega) (by omega) (by omega) (by omega) (by omega)]
  omega
def headEnd (s : ByteArray) (a m n e : Nat) : Int × Int × Int × Bool :=
  if n ≤ 1000000000 ∧ (headText m n).toList = (s.extract a e).toList then ((m : Int), (n : Int), (e : Int), true) else (0, 0, 0, false)
def headAt (s : ByteArray) (a : Nat) : Int × Int × Int × Bool :=
  if byteAt s a % 32 > 26 ∨ a + 1 + manyOf (byteAt s a % 32) > s.size then (0, 0, 0, false)
  else headEnd s a (byteAt s a / 32) (if manyOf (byteAt s a % 32) = 0 then byteAt s a % 32 else numAt s (a + 1) (manyOf (byteAt s a % 32))) (a + 1 + manyOf (byteAt s a % 32))
theorem bt_extract (s : ByteArray) (p q j : Nat) (hq : q ≤ s.size) (hj : p + j < q) : bt (s.extract p q) (j : Int) = bt s ((p + j : Nat) : Int) := by
  have h1 : (s.extract p q).size = q - p := by rw [ByteArray.size_extract]; omega
  unfold bt
  rw [dif_pos (show ((j : Nat) : Int).toNat < (s.extract p q).size by rw [h1]; omega), dif_pos (show ((p + j : Nat) : Int).toNat < s.size by omega)]
  congr 1
  simp only [Int.toNat_natCast]
  rw [ByteArray.getElem_extract]
theorem implHeadEnd {s : ByteArray} (hs : s.size ≤ 1099511627776) (a m n e : Nat) (hm : m ≤ 7) (hn : n < 4294967296) (ha : a ≤ e) (he : e ≤ s.size) :
    (impl_isValue.f (n : Int)).bind (fun t137 => (if t137 = true then ((impl_head.f (m : Int) (n : Int)).bind fun t138 => (if 0 ≤ (a : Int) then (if (a : Int) ≤ (e : Int) then (if (e : Int) ≤ (s.size : Int) then (if t138.toList = (s.extract ((a : Int)).toNat ((e : Int)).toNat).toList then (some ((m : Int), (n : Int), (e : Int), true)) else (some (0, 0, 0, false))) else (none)) else (none)) else (none))) else (some (0, 0, 0, false)))) = some (headEnd s a m n e) := by
  have h1 : (0 : Int) ≤ (a : Int) := by omega
  have h2 : (a : Int) ≤ (e : Int) := by omega
  have h3 : (e : Int) ≤ (s.size : Int) := by omega
  rw [implValue, Option.bind_some]
  unfold headEnd
  by_cases hv : n ≤ 1000000000
  · have hv' : (0 : Int) ≤ (n : Int) ∧ (n : Int) ≤ 1000000000 := by omega
    rw [decide_eq_true hv', if_pos rfl, implHead _ _ (by omega) (by omega) (by omega) (by omega), Option.bind_some, if_pos h1, if_pos h2, if_pos h3, Int.toNat_natCast, Int.toNat_natCast]
    by_cases hx : (headText (m : Int) (n : Int)).toList = (s.extract a e).toList
    · rw [if_pos hx, if_pos ⟨hv, hx⟩]
    · rw [if_neg hx, if_neg (fun h => hx h.2)]
  · have hv' : ¬ ((0 : Int) ≤ (n : Int) ∧ (n : Int) ≤ 1000000000) := by omega
    rw [decide_eq_false hv', if_neg (by decide), if_neg (fun h => hv h.1)]
theorem implTakeHead_go {s : ByteArray} (hs : s.size ≤ 1099511627776) (a m many : Nat) (hm : m ≤ 7) (h4 : many ≤ 4) (he : a + 1 + many ≤ s.size) (n0 : Nat) (hn0 : many = 0 ∧ n0 < 32 ∨ 0 < many ∧ n0 = numAt s (a + 1) many) (d : Nat) : ∀ (j x : Nat), j ≤ many → many - j = d → (0 < many → x = numAt s (a + 1) j) → (many = 0 → x = n0) →
    Ev (fun k => impl_takeHead.l0 k s ((a + 1 + j : Nat) : Int) (m : Int) (x : Int) (a : Int) (many : Int) (j : Int)) (headEnd s a m n0 (a + 1 + many)) := by
  induction d with
  | zero =>
    intro j x h1 h2 h3 h5
    obtain rfl : j = many := by omega
    have hx : x = n0 := by
      rcases hn0 with h | h
      · exact h5 h.1
      · rw [h3 h.1, h.2]
    subst hx
    have hlt : x < 4294967296 := by
      rcases hn0 with h | h
      · omega
      · rw [h.2]; exact numAt_small _ _ _ h4
    refine Ev.step (fun k => by rw [impl_takeHead.l0]) ?_
    refine Ev.ite_neg (by omega) ?_
    rw [implHeadEnd hs a m x (a + 1 + j) hm hlt (by omega) he]
    exact Ev.now _
  | succ d ih =>
    intro j x h1 h2 h3 h5
    have hx := h3 (by omega)
    have hb := byteAt_lt s (a + 1 + j)
    have hsm := numAt_small s (a + 1) j (by omega)
    rw [← hx] at hsm
    have hnx : numAt s (a + 1) (j + 1) = 256 * x + byteAt s (a + 1 + j) := by rw [numAt_succ, hx]
    have g1 : (j : Int) < (many : Int) := by omega
    have g2 : (0 : Int) ≤ ((a + 1 + j : Nat) : Int) := by omega
    have g3 : ((a + 1 + j : Nat) : Int) < (s.size : Int) := by omega
    have next := ih (j + 1) (numAt s (a + 1) (j + 1)) (by omega) (by omega) (fun _ => rfl) (fun h => by omega)
    have e1 : wrap64 (((a + 1 + j : Nat) : Int) + 1) = ((a + 1 + (j + 1) : Nat) : Int) := w64_succ (by omega)
    have e2 : wrap64 ((j : Int) + 1) = ((j + 1 : Nat) : Int) := w64_succ (by omega)
    have e3 : wrap64 (wrap64 (256 * (x : Int)) + wrap64 (byteAt s (a + 1 + j) : Int)) = ((numAt s (a + 1) (j + 1) : Nat) : Int) := by
      rw [hnx]
      exact wrap_join hsm hb
    refine Ev.step (fun k => by rw [impl_takeHead.l0]) ?_
    refine Ev.ite_pos g1 (Ev.ite_pos g2 (Ev.ite_pos g3 ?_))
    rw [byteAt_eq, e1, e2, e3]
    exact next
theorem headAt_out {s : ByteArray} {a many : Nat} (hm : manyOf (byteAt s a % 32) = many) (h : byteAt s a % 32 > 26 ∨ a + 1 + many > s.size) : headAt s a = (0, 0, 0, false) := by
  subst hm
  unfold headAt
  exact if_pos h
theorem headAt_short {s : ByteArray} {a : Nat} (hm : manyOf (byteAt s a % 32) = 0) (h : ¬ (byteAt s a % 32 > 26)) (h2 : a + 1 ≤ s.size) : headAt s a = headEnd s a (byteAt s a / 32) (byteAt s a % 32) (a + 1 + 0) := by
  unfold headAt
  rw [hm, if_neg (show ¬ (byteAt s a % 32 > 26 ∨ a + 1 + 0 > s.size) from fun h3 => h3.elim h (by omega))]
  rfl
theorem headAt_long {s : ByteArray} {a many : Nat} (hm : manyOf (byteAt s a % 32) = many) (h0 : 0 < many) (h : ¬ (byteAt s a % 32 > 26)) (h2 : a + 1 + many ≤ s.size) : headAt s a = headEnd s a (byteAt s a / 32) (numAt s (a + 1) many) (a + 1 + many) := by
  unfold headAt
  rw [hm, if_neg (show ¬ (byteAt s a % 32 > 26 ∨ a + 1 + many > s.size) from fun h3 => h3.elim h (by omega)), if_neg (show ¬ many = 0 by omega)]
theorem headEnd_wide {s : ByteArray} {a m n : Nat} (h0 : 26 < n) (h1 : n < 32) (ha : a + 1 ≤ s.size) : headEnd s a m n (a + 1 + 0) = (0, 0, 0, false) := by
  unfold headEnd
  refine if_neg fun h => ?_
  have hl := congrArg List.length h.2
  unfold headText at hl
  rw [strOfNums_toList, List.length_map, ByteArray.toList_eq] at hl
  unfold headNums at hl
  rw [if_neg (by omega), if_pos (by omega)] at hl
  have h9 : (s.extract a (a + 1 + 0)).size = 1 := by rw [ByteArray.size_extract]; omega
  have h10 : (s.extract a (a + 1 + 0)).data.toList.length = 1 := h9
  rw [h10] at hl
  simp at hl
theorem implTakeHead_tail {s : ByteArray} (hs : s.size ≤ 1099511627776) (a : Nat) (ha : a < s.size) (x many : Nat) (hmany : manyOf (byteAt s a % 32) = many) (h0 : 0 < many → x = 0) (h1 : many = 0 → x = byteAt s a % 32) :
    Ev (fun k => impl_takeHead.j0 k s (a : Int) ((byteAt s a / 32 : Nat) : Int) (x : Int) (many : Int)) (headAt s a) := by
  have hb := byteAt_lt s a
  have h4 : many ≤ 4 := by rw [← hmany]; exact manyOf_le _
  have hm7 : byteAt s a / 32 ≤ 7 := by omega
  have ht32 : byteAt s a % 32 < 32 := by omega
  have go : ∀ n0, a + 1 + many ≤ s.size → (many = 0 ∧ n0 < 32 ∨ 0 < many ∧ n0 = numAt s (a + 1) many) → (many = 0 → x = n0) → Ev (fun k => impl_takeHead.l0 k s ((a + 1 : Nat) : Int) ((byteAt s a / 32 : Nat) : Int) (x : Int) (a : Int) (many : Int) 0) (headEnd s a (byteAt s a / 32) n0 (a + 1 + many)) := fun n0 hc hn0 hx0 =>
    implTakeHead_go hs a (byteAt s a / 32) many hm7 h4 hc n0 hn0 many 0 x (Nat.zero_le _) (Nat.sub_zero _) (fun h => by rw [h0 h, numAt_zero]) hx0
  have e1 : wrap64 ((a : Int) + 1) = ((a + 1 : Nat) : Int) := w64_succ (by omega)
  have e0 : wrap64 (((a + 1 : Nat) : Int) - 1) = (a : Int) := by rw [w64 (by omega) (by omega)]; omega
  have e2 : wrap64 ((s.size : Int) - ((a + 1 : Nat) : Int)) = (s.size : Int) - (a + 1 : Nat) := w64 (by omega) (by omega)
  refine Ev.step (fun k => by rw [impl_takeHead.j0]) ?_
  rw [e1, e0, e2]
  clear e1 e0 e2
  by_cases hc : a + 1 + many ≤ s.size
  · refine Ev.ite_neg (by omega) ?_
    by_cases hm0 : many = 0
    · subst hm0
      have h5 := go (byteAt s a % 32) hc (.inl ⟨rfl, ht32⟩) h1
      by_cases ht : byteAt s a % 32 > 26
      · rw [headAt_out hmany (.inl ht)]
        rw [headEnd_wide ht ht32 (by omega)] at h5
        exact h5
      · rw [headAt_short hmany ht (by omega)]
        exact h5
    · have ht : ¬ (byteAt s a % 32 > 26) := fun ht => hm0 (by rw [← hmany]; unfold manyOf; rw [if_neg (by omega), if_neg (by omega), if_neg (by omega)])
      rw [headAt_long hmany (by omega) ht hc]
      exact go _ hc (.inr ⟨by omega, rfl⟩) (fun h => absurd h hm0)
  · rw [headAt_out hmany (.inr (by omega))]
    exact Ev.ite_pos (by omega) (Ev.now _)
theorem shl1 : shl .i64 1 0 = 1 ∧ shl .i64 1 1 = 2 ∧ shl .i64 1 2 = 4 := by decide
theorem implTakeHead {s : ByteArray} (hs : s.size ≤ 1099511627776) (a : Nat) (ha : a < s.size) : Ev (fun k => impl_takeHead.f k s (a : Int)) (headAt s a) := by
  have tail := implTakeHead_tail hs a ha
  obtain ⟨eb, em, ed⟩ := byte_parts (byteAt_lt s a)
  have ew : wrap64 ((s.size : Int) - 1) = (s.size : Int) - 1 := w64 (by omega) (by omega)
  have hin : (0 ≤ (a : Int) ∧ (a : Int) ≤ (s.size : Int) - 1) := by omega
  have w0 : wrap64 (((24 : Nat) : Int) - 24) = 0 := by rw [w64 (by omega) (by omega)]; rfl
  have w1 : wrap64 (((25 : Nat) : Int) - 24) = 1 := by rw [w64 (by omega) (by omega)]; rfl
  have w2 : wrap64 (((26 : Nat) : Int) - 24) = 2 := by rw [w64 (by omega) (by omega)]; rfl
  simp only [impl_takeHead.f, ew, implWithin, Option.bind_some, hin, and_self, decide_true, if_true, if_pos (show (0 : Int) ≤ (a : Int) by omega), if_pos (show (a : Int) < (s.size : Int) by omega), byteAt_eq, eb, em, ed]
  clear eb em ed ew
  generalize byteAt s a % 32 = t at tail ⊢
  by_cases h24 : t = 24
  · subst h24
    rw [w0, shl1.1]
    exact Ev.ite_pos rfl (Ev.ite_pos (by decide) (tail 0 1 rfl (fun _ => rfl) (fun h => by omega)))
  · refine Ev.ite_neg (by omega) ?_
    by_cases h25 : t = 25
    · subst h25
      rw [w1, shl1.2.1]
      exact Ev.ite_pos rfl (Ev.ite_pos (by decide) (tail 0 2 rfl (fun _ => rfl) (fun h => by omega)))
    · refine Ev.ite_neg (by omega) ?_
      by_cases h26 : t = 26
      · subst h26
        rw [w2, shl1.2.2]
        exact Ev.ite_pos rfl (Ev.ite_pos (by decide) (tail 0 4 rfl (fun _ => rfl) (fun h => by omega)))
      · refine Ev.ite_neg (by omega) ?_
        exact tail t 0 (by unfold manyOf; rw [if_neg h24, if_neg h25, if_neg h26]) (fun h => by omega) (fun _ => rfl)
theorem specHeadEnd {s : ByteArray} (hs : s.size ≤ 1099511627776) (a m n many : Nat) (hm : m ≤ 7) (hn : n < 4294967296) (h4 : many ≤ 4) (he : a + 1 + many ≤ s.size) :
    Ev (fun k => spec_l2TakeHead.j3 k s (a : Int) (m : Int) (n : Int) (many : Int)) (headEnd s a m n (a + 1 + many)) := by
  have e1 : wrap64 (wrap64 ((a : Int) + 1) + (many : Int)) = ((a + 1 + many : Nat) : Int) := by rw [w64_succ (by omega), w64_add (by omega)]
  refine Ev.step (fun k => by rw [spec_l2TakeHead.j3]) ?_
  rw [specValue, e1]
  clear e1
  simp only [Option.bind_some]
  unfold headEnd
  by_cases hv : n ≤ 1000000000
  · have hv' : (0 : Int) ≤ (n : Int) ∧ (n : Int) ≤ 1000000000 := by omega
    rw [decide_eq_true hv']
    refine Ev.ite_pos rfl (Ev.bind (specHead _ _ (by omega) (by omega) (by omega) (by omega)) (Ev.ite_pos (by omega) (Ev.ite_pos (by omega) (Ev.ite_pos (by omega) ?_))))
    rw [Int.toNat_natCast, Int.toNat_natCast]
    by_cases hx : (headText (m : Int) (n : Int)).toList = (s.extract a (a + 1 + many)).toList
    · rw [if_pos (show n ≤ 1000000000 ∧ (headText (m : Int) (n : Int)).toList = (s.extract a (a + 1 + many)).toList from ⟨hv, hx⟩)]
      exact Ev.ite_pos hx (Ev.now _)
    · rw [if_neg (show ¬ (n ≤ 1000000000 ∧ (headText (m : Int) (n : Int)).toList = (s.extract a (a + 1 + many)).toList) from fun h => hx h.2)]
      exact Ev.ite_neg hx (Ev.now _)
  · have hv' : ¬ ((0 : Int) ≤ (n : Int) ∧ (n : Int) ≤ 1000000000) := by omega
    rw [decide_eq_false hv', if_neg (show ¬ (n ≤ 1000000000 ∧ (headText (m : Int) (n : Int)).toList = (s.extract a (a + 1 + many)).toList) from fun h => hv h.1)]
    exact Ev.ite_neg (by decide) (Ev.now _)
theorem specTakeHead_go {s : ByteArray} (hs : s.size ≤ 1099511627776) (a m many : Nat) (hm : m ≤ 7) (h4 : many ≤ 4) (he : a + 1 + many ≤ s.size) (d : Nat) : ∀ (j : Nat), j ≤ many → many - j = d →
    Ev (fun k => spec_l2TakeHead.l0 k s (a : Int) (m : Int) ((numAt s (a + 1) j : Nat) : Int) (many : Int) (bytesOf (s.extract (a + 1) (a + 1 + many))) (many : Int) (j : Int)) (headEnd s a m (numAt s (a + 1) many) (a + 1 + many)) := by
  have hl : (bytesOf (s.extract (a + 1) (a + 1 + many))).length = many := by rw [bytesOf_length, ByteArray.size_extract]; omega
  induction d with
  | zero =>
    intro j h1 h2
    obtain rfl : j = many := by omega
    refine Ev.step (fun k => by rw [spec_l2TakeHead.l0]) ?_
    refine Ev.ite_neg (by omega) ?_
    exact specHeadEnd hs a m _ j hm (numAt_small _ _ _ h4) h4 he
  | succ d ih =>
    intro j h1 h2
    have hb := byteAt_lt s (a + 1 + j)
    have hsm := numAt_small s (a + 1) j (by omega)
    have hj : a + 1 + j < a + 1 + many := by omega
    have g1 : (j : Int) < (many : Int) := by omega
    have g2 : (0 : Int) ≤ (j : Int) := by omega
    have next := ih (j + 1) (by omega) (by omega)
    have g3 : (j : Int) < ((bytesOf (s.extract (a + 1) (a + 1 + many))).length : Int) := by rw [hl]; exact g1
    have e2 : wrap64 ((j : Int) + 1) = ((j + 1 : Nat) : Int) := w64_succ (by omega)
    have e3 : Go.bits .or .i64 (wrap64 (((numAt s (a + 1) j : Nat) : Int) * 256)) (wrap64 (rd (bytesOf (s.extract (a + 1) (a + 1 + many))) (j : Int))) = ((numAt s (a + 1) (j + 1) : Nat) : Int) := by
      rw [rd_bytesOf, bt_extract s (a + 1) (a + 1 + many) j he hj, byteAt_eq, numAt_succ]
      exact or_join hsm hb
    refine Ev.step (fun k => by rw [spec_l2TakeHead.l0]) ?_
    refine Ev.ite_pos g1 (Ev.ite_pos g2 (Ev.ite_pos g3 ?_))
    rw [e3, e2]
    exact next
theorem specTakeHead_out {s : ByteArray} (a m n many : Int) : Ev (fun k => spec_l2TakeHead.j1 k s a m n many true) (0, 0, 0, false) := by
  refine Ev.step (fun k => by rw [spec_l2TakeHead.j1]) ?_
  exact Ev.ite_pos rfl (Ev.now _)
theorem specTakeHead_tail {s : ByteArray} (hs : s.size ≤ 1099511627776) (a : Nat) (ha : a < s.size) (many : Nat) (hmany : manyOf (byteAt s a % 32) = many) :
    Ev (fun k => spec_l2TakeHead.j0 k s (a : Int) ((byteAt s a / 32 : Nat) : Int) ((byteAt s a % 32 : Nat) : Int) (many : Int)) (headAt s a) := by
  have hb := byteAt_lt s a
  have h4 : many ≤ 4 := by rw [← hmany]; exact manyOf_le _
  have hm7 : byteAt s a / 32 ≤ 7 := by omega
  have ht32 : byteAt s a % 32 < 4294967296 := by omega
  have e1 : wrap64 ((a : Int) + 1) = ((a + 1 : Nat) : Int) := w64_succ (by omega)
  have e3 : wrap64 (((a + 1 : Nat) : Int) + (many : Int)) = ((a + 1 + many : Nat) : Int) := w64_add (by omega)
  refine Ev.step (fun k => by rw [spec_l2TakeHead.j0]) ?_
  by_cases ht : byteAt s a % 32 > 26
  · rw [headAt_out hmany (.inl ht)]
    exact Ev.ite_pos (by omega) (specTakeHead_out _ _ _ _)
  · refine Ev.ite_neg (by omega) ?_
    rw [e1, e3]
    by_cases hc : a + 1 + many ≤ s.size
    · have c1 : ¬ ((a + 1 + many : Nat) : Int) > (s.size : Int) := by omega
      rw [decide_eq_false c1]
      refine Ev.step (fun k => by rw [spec_l2TakeHead.j1]) ?_
      refine Ev.ite_neg (by decide) ?_
      by_cases hm0 : many = 0
      · subst hm0
        rw [headAt_short hmany ht (by omega)]
        exact Ev.ite_neg (by decide) (specHeadEnd hs a _ _ 0 hm7 ht32 h4 hc)
      · rw [headAt_long hmany (by omega) ht hc, e1, e3]
        have c2 : (many : Int) > 0 := by omega
        have c3 : (0 : Int) ≤ ((a + 1 : Nat) : Int) := by omega
        have c4 : ((a + 1 : Nat) : Int) ≤ ((a + 1 + many : Nat) : Int) := by omega
        have c5 : ((a + 1 + many : Nat) : Int) ≤ (s.size : Int) := by omega
        have c6 : (s.extract (a + 1) (a + 1 + many)).size ≤ 9223372036854775807 := by rw [ByteArray.size_extract]; omega
        have hl : (bytesOf (s.extract (a + 1) (a + 1 + many))).length = many := by rw [bytesOf_length, ByteArray.size_extract]; omega
        refine Ev.ite_pos c2 (Ev.ite_pos c3 (Ev.ite_pos c4 (Ev.ite_pos c5 ?_)))
        rw [Int.toNat_natCast, Int.toNat_natCast]
        refine Ev.ite_pos c6 ?_
        simp only [Option.bind_some]
        rw [hl]
        have := specTakeHead_go hs a _ many hm7 h4 hc many 0 (Nat.zero_le _) (Nat.sub_zero _)
        rw [numAt_zero] at this
        exact this
    · have c1 : ((a + 1 + many : Nat) : Int) > (s.size : Int) := by omega
      rw [headAt_out hmany (.inr (by omega)), decide_eq_true c1]
      exact specTakeHead_out _ _ _ _
theorem specTakeHead {s : ByteArray} (hs : s.size ≤ 1099511627776) (a : Nat) (ha : a < s.size) : Ev (fun k => spec_l2TakeHead.f k s (a : Int)) (headAt s a) := by
  have tail := specTakeHead_tail hs a ha
  obtain ⟨eb, em, ed⟩ := byte_parts (byteAt_lt s a)
  simp only [spec_l2TakeHead.f, if_neg (show ¬ (a : Int) ≥ (s.size : Int) by omega), if_pos (show (0 : Int) ≤ (a : Int) by omega), if_pos (show (a : Int) < (s.size : Int) by omega), byteAt_eq, eb, em, ed]
  clear eb em ed
  generalize byteAt s a % 32 = t at tail ⊢
  by_cases h24 : t = 24
  · subst h24
    exact Ev.ite_pos rfl (tail 1 rfl)
  · refine Ev.ite_neg (by omega) ?_
    by_cases h25 : t = 25
    · subst h25
      exact Ev.ite_pos rfl (tail 2 rfl)
    · refine Ev.ite_neg (by omega) ?_
      by_cases h26 : t = 26
      · subst h26
        exact Ev.ite_pos rfl (tail 4 rfl)
      · refine Ev.ite_neg (by omega) ?_
        exact tail 0 (by unfold manyOf; rw [if_neg h24, if_neg h25, if_neg h26])
theorem implText_go (f0 f1 : Int) (s : ByteArray) (f3 : Int) (hs : s.size ≤ 4611686018427387904) (m : Nat) (hm : m = min s.size 61) (d : Nat) : ∀ i : Nat, i ≤ m → m - i = d →
    ∃ b : Bool, Ev (fun k => impl_itemOK.l0 k (m : Int) (i : Int) f0 f1 s f3) b ∧ (b = true ↔ (SignsFrom s i ∧ s.size ≤ 60 ∧ f1 = 0 ∧ f3 = 0)) := by
  induction d with
  | zero =>
    intro i h0 hd
    obtain rfl : i = m := by omega
    by_cases h60 : s.size ≤ 60
    · have hs0 : SignsFrom s i := fun j h1 h2 => by omega
      by_cases h1 : f1 = 0
      · refine ⟨f3 == 0, ?_, by simp [hs0, h60, h1]⟩
        refine Ev.step (fun k => by rw [impl_itemOK.l0]) ?_
        exact Ev.ite_neg (by omega) (Ev.ite_pos (by omega) (Ev.ite_pos h1 (Ev.now _)))
      · refine ⟨false, ?_, by simp [h1]⟩
        refine Ev.step (fun k => by rw [impl_itemOK.l0]) ?_
        exact Ev.ite_neg (by omega) (Ev.ite_pos (by omega) (Ev.ite_neg h1 (Ev.now _)))
    · refine ⟨false, ?_, by simp [h60]⟩
      refine Ev.step (fun k => by rw [impl_itemOK.l0]) ?_
      exact Ev.ite_neg (by omega) (Ev.ite_neg (by omega) (Ev.now _))
  | succ d ih =>
    intro i h0 hd
    have hi : i < s.size := by omega
    have hb := bt_range s (i : Int)
    have hw : wrap64 ((i : Int) + 1) = ((i + 1 : Nat) : Int) := by rw [w64 (by omega) (by omega)]; omega
    have hwb : wrap64 (bt s (i : Int)) = bt s (i : Int) := w64 (by omega) (by omega)
    have hp : (i : Int) < (m : Int) := by omega
    have hz : (0 : Int) ≤ (i : Int) := by omega
    have hl : (i : Int) < (s.size : Int) := by omega
    obtain ⟨b, x, y⟩ := ih (i + 1) (by omega) (by omega)
    by_cases hr : 32 ≤ bt s (i : Int) ∧ bt s (i : Int) ≤ 126
    · refine ⟨b, ?_, by rw [y, SignsFrom.step hi]; simp [hr]⟩
      refine Ev.step (fun k => by rw [impl_itemOK.l0]) ?_
      refine Ev.ite_pos hp (Ev.ite_pos hz (Ev.ite_pos hl ?_))
      rw [hwb, implWithin]
      simp only [Option.bind_some, hr, and_self, decide_true, if_true]
      rw [hw]; exact x
    · refine ⟨false, ?_, by rw [SignsFrom.step hi]; simp [hr]⟩
      refine Ev.step (fun k => by rw [impl_itemOK.l0]) ?_
      refine Ev.ite_pos hp (Ev.ite_pos hz (Ev.ite_pos hl ?_))
      rw [hwb, implWithin]
      simp only [Option.bind_some, hr, decide_false]
      exact Ev.ite_neg (by simp) (Ev.now _)
theorem implItemOK (f0 f1 : Int) (s : ByteArray) (f3 : Int) (hs : s.size ≤ 4611686018427387904) : ∃ b : Bool, Ev (fun k => impl_itemOK.f k f0 f1 s f3) b ∧ (b = true ↔ OkItem f0 f1 s f3) := by
  simp only [impl_itemOK.f, implValue, implWithin, Option.bind_some, decide_eq_true_eq, toList_nil_iff]
  by_cases h1 : f0 = 1
  · subst h1
    simp only [if_true]
    by_cases hv : 0 ≤ f1 ∧ f1 ≤ 1000000000
    · by_cases ht : s.size = 0
      · exact ⟨f3 == 0, Ev.ite_pos hv (Ev.ite_pos ht (Ev.now _)), by simp [OkItem, hv, ht]⟩
      · exact ⟨false, Ev.ite_pos hv (Ev.ite_neg ht (Ev.now _)), by simp [OkItem, ht]⟩
    · exact ⟨false, Ev.ite_neg hv (Ev.now _), by simp [OkItem]; omega⟩
  · simp only [if_neg h1]
    by_cases h3 : f0 = 3
    · subst h3
      simp only [if_true]
      have e : mn (s.size : Int) 61 = ((min s.size 61 : Nat) : Int) := by unfold mn; split <;> omega
      rw [e]
      obtain ⟨b, x, y⟩ := implText_go 3 f1 s f3 hs (min s.size 61) rfl _ 0 (by omega) rfl
      exact ⟨b, x, by rw [y]; simp [OkItem]⟩
    · simp only [if_neg h3]
      by_cases h2 : f0 = 2
      · subst h2
        simp only [if_true]
        by_cases h60 : s.size ≤ 60
        · by_cases hn : f1 = 0
          · exact ⟨f3 == 0, Ev.ite_pos (by omega) (Ev.ite_pos hn (Ev.now _)), by simp [OkItem, h60, hn]⟩
          · exact ⟨false, Ev.ite_pos (by omega) (Ev.ite_neg hn (Ev.now _)), by simp [OkItem, hn]⟩
        · exact ⟨false, Ev.ite_neg (by omega) (Ev.now _), by simp [OkItem, h60]⟩
      · simp only [if_neg h2]
        by_cases h4 : f0 = 4
        · subst h4
          simp only [if_true]
          by_cases hv : 0 ≤ f3 ∧ f3 ≤ 40
          · by_cases hn : f1 = 0
            · refine ⟨decide (s.size = 0), Ev.ite_pos hv (Ev.ite_pos hn (Ev.now' ?_)), by simp [OkItem, hv, hn]⟩
              rw [Bool.eq_iff_iff]
              simp [toList_nil_iff]
            · exact ⟨false, Ev.ite_pos hv (Ev.ite_neg hn (Ev.now _)), by simp [OkItem, hn]⟩
          · exact ⟨false, Ev.ite_neg hv (Ev.now _), by simp [OkItem]; omega⟩
        · simp only [if_neg h4]
          exact ⟨false, Ev.now _, by simp [OkItem, h1, h2, h3, h4]⟩
def IV (n at_ : Nat) (q : Int × Int) : Prop := q.1 = -1 ∨ ((at_ : Int) < q.1 ∧ q.1 ≤ n ∧ 0 ≤ q.2 ∧ q.2 ≤ q.1 - at_)
theorem implLoop_end (l : List S63) {many : Int} {a x : Nat} {j : Int} (hx : x ≤ 1048576) (h : ¬ j < many) : Ev (fun k => impl_value.l0 k l (a : Int) (x : Int) many j) ((a : Int), (x : Int) + 1) := by
  refine Ev.step (fun k => by rw [impl_value.l0]) ?_
  rw [w64 (x := (x : Int) + 1) (by omega) (by omega)]
  exact Ev.ite_neg h (Ev.now _)
theorem implLoop_fail (l : List S63) {many : Int} {a x : Nat} {j : Int} (h : j < many) {q : Int × Int} (hq : Ev (fun k => impl_value.f k l (a : Int)) q) (hn : q.1 = -1) : Ev (fun k => impl_value.l0 k l (a : Int) (x : Int) many j) (-1, 0) := by
  refine Ev.step (fun k => by rw [impl_value.l0]) ?_
  exact Ev.ite_pos h (Ev.bind hq (Ev.ite_pos (by omega) (Ev.now _)))
theorem implLoop_next (l : List S63) {many : Int} (hm : many ≤ 9223372036854775807) {a x : Nat} {j : Int} (h0 : 0 ≤ j) (h : j < many) {e d : Nat} (hq : Ev (fun k => impl_value.f k l (a : Int)) ((e : Int), (d : Int))) {r : Int × Int}
    (hr : Ev (fun k => impl_value.l0 k l (e : Int) ((max x d : Nat) : Int) many (j + 1)) r) : Ev (fun k => impl_value.l0 k l (a : Int) (x : Int) many j) r := by
  refine Ev.step (fun k => by rw [impl_value.l0]) ?_
  refine Ev.ite_pos h (Ev.bind hq (Ev.ite_neg (by simp only; omega) ?_))
  have e1 : mx (x : Int) (d : Int) = ((max x d : Nat) : Int) := by unfold mx; split <;> omega
  simp only [e1, w64 (show -9223372036854775808 ≤ j + 1 by omega) (show j + 1 ≤ 9223372036854775807 by omega)]
  exact hr
theorem pair_nat {q : Int × Int} (h1 : 0 ≤ q.1) (h2 : 0 ≤ q.2) : ∃ e d : Nat, q = ((e : Int), (d : Int)) := ⟨q.1.toNat, q.2.toNat, by apply Prod.ext <;> simp only <;> omega⟩
theorem implLoop_go (l : List S63) (hl : l.length ≤ 1048576) (many : Int) (hm : many ≤ 9223372036854775807) (b : Nat) (H : ∀ a : Nat, b ≤ a → a ≤ l.length → ∃ q, Ev (fun k => impl_value.f k l (a : Int)) q ∧ IV l.length a q) :
    ∀ (e : Nat) (a x : Nat) (j : Int), l.length - a ≤ e → b ≤ a → a ≤ l.length → x ≤ a - b → 0 ≤ j → ∃ q : Int × Int, Ev (fun k => impl_value.l0 k l (a : Int) (x : Int) many j) q ∧ (q.1 = -1 ∨ ((a : Int) ≤ q.1 ∧ q.1 ≤ l.length ∧ (x : Int) + 1 ≤ q.2 ∧ q.2 ≤ q.1 - b + 1)) := by
  intro e
  induction e with
  | zero =>
    intro a x j h0 h1 h2 hx hj
    by_cases hlt : j < many
    · obtain ⟨q, hq, hi⟩ := H a h1 h2
      have hn : q.1 = -1 := by unfold IV at hi; omega
      exact ⟨(-1, 0), implLoop_fail l hlt hq hn, .inl rfl⟩
    · exact ⟨((a : Int), (x : Int) + 1), implLoop_end l (by omega) hlt, .inr (by simp only; omega)⟩
  | succ e ih =>
    intro a x j h0 h1 h2 hx hj
    by_cases hlt : j < many
    · obtain ⟨q, hq, hi⟩ := H a h1 h2
      rcases hi with hi | hi
      · exact ⟨(-1, 0), implLoop_fail l hlt hq hi, .inl rfl⟩
      · obtain ⟨f, d, rfl⟩ := pair_nat (show 0 ≤ q.1 by omega) hi.2.2.1
        simp only at hi
        obtain ⟨r, hr, hc⟩ := ih f (max x d) (j + 1) (by omega) (by omega) (by omega) (by omega) (by omega)
        exact ⟨r, implLoop_next l hm hj hlt hq hr, by omega⟩
    · exact ⟨((a : Int), (x : Int) + 1), implLoop_end l (by omega) hlt, .inr (by simp only; omega)⟩
theorem implValue_out (l : List S63) {a : Nat} (h : l.length ≤ a) : Ev (fun k => impl_value.f k l (a : Int)) (-1, 0) := by
  refine Ev.step (fun k => by rw [impl_value.f]) ?_
  refine Ev.ite_pos (by omega) ?_
  refine Ev.step (fun k => by rw [impl_value.j0]) ?_
  exact Ev.ite_pos rfl (Ev.now _)
theorem implValue_bad (l : List S63) {a : Nat} (h : a < l.length) (hs : (rd_T63 l (a : Int)).f2.size ≤ 4611686018427387904) (hk : ¬ OkItem (rd_T63 l (a : Int)).f0 (rd_T63 l (a : Int)).f1 (rd_T63 l (a : Int)).f2 (rd_T63 l (a : Int)).f3) : Ev (fun k => impl_value.f k l (a : Int)) (-1, 0) := by
  obtain ⟨b, hb, hbi⟩ := implItemOK (rd_T63 l (a : Int)).f0 (rd_T63 l (a : Int)).f1 (rd_T63 l (a : Int)).f2 (rd_T63 l (a : Int)).f3 hs
  have hbf : b = false := by rw [← Bool.not_eq_true, hbi]; exact hk
  subst hbf
  refine Ev.step (fun k => by rw [impl_value.f]) ?_
  refine Ev.ite_neg (by omega) (Ev.ite_pos (by omega) (Ev.ite_pos (by omega) (Ev.bind hb ?_)))
  refine Ev.step (fun k => by rw [impl_value.j0]) ?_
  exact Ev.ite_pos rfl (Ev.now _)
theorem implValue_one (l : List S63) {a : Nat} (h : a < l.length) (hl : l.length ≤ 1048576) (hs : (rd_T63 l (a : Int)).f2.size ≤ 4611686018427387904) (hk : OkItem (rd_T63 l (a : Int)).f0 (rd_T63 l (a : Int)).f1 (rd_T63 l (a : Int)).f2 (rd_T63 l (a : Int)).f3) (h4 : (rd_T63 l (a : Int)).f0 ≠ 4) : Ev (fun k => impl_value.f k l (a : Int)) ((a : Int) + 1, 0) := by
  obtain ⟨b, hb, hbi⟩ := implItemOK (rd_T63 l (a : Int)).f0 (rd_T63 l (a : Int)).f1 (rd_T63 l (a : Int)).f2 (rd_T63 l (a : Int)).f3 hs
  have hbf : b = true := hbi.mpr hk
  subst hbf
  have hw : wrap64 ((a : Int) + 1) = (a : Int) + 1 := w64 (by omega) (by omega)
  refine Ev.step (fun k => by rw [impl_value.f]) ?_
  refine Ev.ite_neg (by omega) (Ev.ite_pos (by omega) (Ev.ite_pos (by omega) (Ev.bind hb ?_)))
  refine Ev.step (fun k => by rw [impl_value.j0]) ?_
  refine Ev.ite_neg (by simp) (Ev.ite_pos (by omega) (Ev.ite_pos (by omega) (Ev.ite_neg h4 ?_)))
  rw [hw]; exact Ev.now _
theorem implValue_list (l : List S63) {a : Nat} (h : a < l.length) (hl : l.length ≤ 1048576) (hs : (rd_T63 l (a : Int)).f2.size ≤ 4611686018427387904) (hk : OkItem (rd_T63 l (a : Int)).f0 (rd_T63 l (a : Int)).f1 (rd_T63 l (a : Int)).f2 (rd_T63 l (a : Int)).f3) (h4 : (rd_T63 l (a : Int)).f0 = 4) {q : Int × Int}
    (hq : Ev (fun k => impl_value.l0 k l ((a + 1 : Nat) : Int) ((0 : Nat) : Int) (rd_T63 l (a : Int)).f3 0) q) : Ev (fun k => impl_value.f k l (a : Int)) q := by
  obtain ⟨b, hb, hbi⟩ := implItemOK (rd_T63 l (a : Int)).f0 (rd_T63 l (a : Int)).f1 (rd_T63 l (a : Int)).f2 (rd_T63 l (a : Int)).f3 hs
  have hbf : b = true := hbi.mpr hk
  subst hbf
  have hw : wrap64 ((a : Int) + 1) = ((a + 1 : Nat) : Int) := by rw [w64 (by omega) (by omega)]; omega
  refine Ev.step (fun k => by rw [impl_value.f]) ?_
  refine Ev.ite_neg (by omega) (Ev.ite_pos (by omega) (Ev.ite_pos (by omega) (Ev.bind hb ?_)))
  refine Ev.step (fun k => by rw [impl_value.j0]) ?_
  refine Ev.ite_neg (by simp) (Ev.ite_pos (by omega) (Ev.ite_pos (by omega) (Ev.ite_pos h4 ?_)))
  rw [hw]; exact hq
theorem implValue_all (l : List S63) (hl : l.length ≤ 1048576) (hs : ∀ a : Nat, a < l.length → (rd_T63 l (a : Int)).f2.size ≤ 4611686018427387904) (d : Nat) : ∀ a : Nat, l.length - a ≤ d → a ≤ l.length → ∃ q, Ev (fun k => impl_value.f k l (a : Int)) q ∧ IV l.length a q := by
  induction d with
  | zero => intro a h0 h1; exact ⟨(-1, 0), implValue_out l (by omega), .inl rfl⟩
  | succ d ih =>
    intro a h0 h1
    by_cases hlt : a < l.length
    · by_cases hk : OkItem (rd_T63 l (a : Int)).f0 (rd_T63 l (a : Int)).f1 (rd_T63 l (a : Int)).f2 (rd_T63 l (a : Int)).f3
      · by_cases h4 : (rd_T63 l (a : Int)).f0 = 4
        · obtain ⟨q, hq, hc⟩ := implLoop_go l hl (rd_T63 l (a : Int)).f3 (by unfold OkItem at hk; omega) (a + 1) (fun a' h2 h3 => ih a' (by omega) h3) (l.length) (a + 1) 0 0 (by omega) (by omega) (by omega) (by omega) (by omega)
          refine ⟨q, implValue_list l hlt hl (hs a hlt) hk h4 hq, ?_⟩
          unfold IV
          omega
        · exact ⟨_, implValue_one l hlt hl (hs a hlt) hk h4, .inr (by simp only; omega)⟩
      · exact ⟨(-1, 0), implValue_bad l hlt (hs a hlt) hk, .inl rfl⟩
    · exact ⟨(-1, 0), implValue_out l (by omega), .inl rfl⟩
theorem implLoop_ok (l : List S63) (hl : l.length ≤ 1048576) (many : Int) (hm : many ≤ 9223372036854775807) (b : Nat) (H : ∀ a : Nat, b ≤ a → a ≤ l.length → ∃ q, Ev (fun k => impl_value.f k l (a : Int)) q ∧ IV l.length a q ∧ (q.1 = -1 ∨ ∀ i : Nat, a ≤ i → (i : Int) < q.1 → OkAt l i)) :
    ∀ (e : Nat) (a x : Nat) (j : Int), l.length - a ≤ e → b ≤ a → a ≤ l.length → x ≤ a - b → 0 ≤ j → ∃ q : Int × Int, Ev (fun k => impl_value.l0 k l (a : Int) (x : Int) many j) q ∧ (q.1 = -1 ∨ ∀ i : Nat, a ≤ i → (i : Int) < q.1 → OkAt l i) := by
  intro e
  induction e with
  | zero =>
    intro a x j h0 h1 h2 hx hj
    by_cases hlt : j < many
    · obtain ⟨q, hq, hi, _⟩ := H a h1 h2
      have hn : q.1 = -1 := by unfold IV at hi; omega
      exact ⟨(-1, 0), implLoop_fail l hlt hq hn, .inl rfl⟩
    · exact ⟨((a : Int), (x : Int) + 1), implLoop_end l (by omega) hlt, .inr (fun i h3 h4 => by simp only at h4; omega)⟩
  | succ e ih =>
    intro a x j h0 h1 h2 hx hj
    by_cases hlt : j < many
    · obtain ⟨q, hq, hi, ho⟩ := H a h1 h2
      rcases hi with hi | hi
      · exact ⟨(-1, 0), implLoop_fail l hlt hq hi, .inl rfl⟩
      · obtain ⟨f, d, rfl⟩ := pair_nat (show 0 ≤ q.1 by omega) hi.2.2.1
        simp only at hi ho
        obtain ⟨r, hr, hc⟩ := ih f (max x d) (j + 1) (by omega) (by omega) (by omega) (by omega) (by omega)
        refine ⟨r, implLoop_next l hm hj hlt hq hr, ?_⟩
        rcases hc with hc | hc
        · exact .inl hc
        · refine .inr fun i h3 h4 => ?_
          rcases Nat.lt_or_ge i f with h5 | h5
          · rcases ho with ho | ho
            · omega
            · exact ho i h3 (by omega)
          · exact hc i h5 h4
    · exact ⟨((a : Int), (x : Int) + 1), implLoop_end l (by omega) hlt, .inr (fun i h3 h4 => by simp only at h4; omega)⟩
theorem implValue_ok (l : List S63) (hl : l.length ≤ 1048576) (hs : ∀ a : Nat, a < l.length → (rd_T63 l (a : Int)).f2.size ≤ 4611686018427387904) (d : Nat) : ∀ a : Nat, l.length - a ≤ d → a ≤ l.length → ∃ q, Ev (fun k => impl_value.f k l (a : Int)) q ∧ IV l.length a q ∧ (q.1 = -1 ∨ ∀ i : Nat, a ≤ i → (i : Int) < q.1 → OkAt l i) := by
  induction d with
  | zero => intro a h0 h1; exact ⟨(-1, 0), implValue_out l (by omega), .inl rfl, .inl rfl⟩
  | succ d ih =>
    intro a h0 h1
    obtain ⟨q, hq, hi⟩ := implValue_all l hl hs l.length a (by omega) h1
    refine ⟨q, hq, hi, ?_⟩
    by_cases hlt : a < l.length
    · by_cases hk : OkAt l a
      · by_cases h4 : (rd_T63 l (a : Int)).f0 = 4
        · obtain ⟨q', hq', hc⟩ := implLoop_ok l hl (rd_T63 l (a : Int)).f3 (by unfold OkAt OkItem at hk; omega) (a + 1) (fun a' h2 h3 => ih a' (by omega) h3) (l.length) (a + 1) 0 0 (by omega) (by omega) (by omega) (by omega) (by omega)
          have e := Ev.uniq hq (implValue_list l hlt hl (hs a hlt) hk h4 hq')
          subst e
          rcases hc with hc | hc
          · exact .inl hc
          · refine .inr fun i h3 h5 => ?_
            rcases Nat.lt_or_ge a i with h6 | h6
            · exact hc i h6 h5
            · obtain rfl : i = a := by omega
              exact hk
        · have e := Ev.uniq hq (implValue_one l hlt hl (hs a hlt) hk h4)
          subst e
          refine .inr fun i h3 h5 => ?_
          simp only at h5
          obtain rfl : i = a := by omega
          exact hk
      · have e := Ev.uniq hq (implValue_bad l hlt (hs a hlt) hk)
        subst e
        exact .inl rfl
    · have e := Ev.uniq hq (implValue_out l (by omega))
      subst e
      exact .inl rfl
theorem specText_go (a : Nat) (ha : a ≤ 1048576) (deep : Int) (f0 f1 : Int) (s : ByteArray) (f3 : Int) (hs : s.size ≤ 4611686018427387904) (d : Nat) : ∀ i : Nat, i ≤ s.size → s.size - i = d →
    ∃ r : Int × Int × Bool, Ev (fun k => spec_l2Value.l0 k (a : Int) deep (i : Int) f0 f1 s f3) r ∧ (r.2.2 = true ↔ ((f0 = 3 → SignsFrom s i) ∧ s.size ≤ 60 ∧ f1 = 0 ∧ f3 = 0)) ∧ (r.2.2 = true → r.1 = (a : Int) + 1 ∧ r.2.1 = deep) := by
  induction d with
  | zero =>
    intro i h0 hd
    have hs0 : SignsFrom s i := fun j h1 h2 => by omega
    have hw : wrap64 ((a : Int) + 1) = (a : Int) + 1 := w64 (by omega) (by omega)
    by_cases h60 : s.size ≤ 60
    · by_cases h1 : f1 = 0
      · refine ⟨((a : Int) + 1, deep, f3 == 0), ?_, by simp [hs0, h60, h1], fun _ => ⟨rfl, rfl⟩⟩
        refine Ev.step (fun k => by rw [spec_l2Value.l0]) ?_
        rw [hw]
        exact Ev.ite_neg (by omega) (Ev.ite_pos (by omega) (Ev.ite_pos h1 (Ev.now _)))
      · refine ⟨((a : Int) + 1, deep, false), ?_, by simp [h1], fun h => by cases h⟩
        refine Ev.step (fun k => by rw [spec_l2Value.l0]) ?_
        rw [hw]
        exact Ev.ite_neg (by omega) (Ev.ite_pos (by omega) (Ev.ite_neg h1 (Ev.now _)))
    · refine ⟨((a : Int) + 1, deep, false), ?_, by simp [h60], fun h => by cases h⟩
      refine Ev.step (fun k => by rw [spec_l2Value.l0]) ?_
      rw [hw]
      exact Ev.ite_neg (by omega) (Ev.ite_neg (by omega) (Ev.now _))
  | succ d ih =>
    intro i h0 hd
    have hi : i < s.size := by omega
    have hw : wrap64 ((i : Int) + 1) = ((i + 1 : Nat) : Int) := by rw [w64 (by omega) (by omega)]; omega
    have hp : (i : Int) < (s.size : Int) := by omega
    have hz : (0 : Int) ≤ (i : Int) := by omega
    obtain ⟨r, x, y, z⟩ := ih (i + 1) (by omega) (by omega)
    by_cases h3 : f0 = 3
    · by_cases hr : 32 ≤ bt s (i : Int) ∧ bt s (i : Int) ≤ 126
      · refine ⟨r, ?_, by rw [y, SignsFrom.step hi]; simp [hr], z⟩
        refine Ev.step (fun k => by rw [spec_l2Value.l0]) ?_
        refine Ev.ite_pos hp (Ev.ite_pos h3 (Ev.ite_pos hz (Ev.ite_neg (by omega) (Ev.ite_neg (by omega) ?_))))
        rw [hw]; exact x
      · refine ⟨(0, 0, false), ?_, by rw [SignsFrom.step hi]; simp [hr, h3], fun h => by cases h⟩
        refine Ev.step (fun k => by rw [spec_l2Value.l0]) ?_
        refine Ev.ite_pos hp (Ev.ite_pos h3 (Ev.ite_pos hz ?_))
        by_cases hlo : bt s (i : Int) < 32
        · exact Ev.ite_pos hlo (Ev.now _)
        · exact Ev.ite_neg hlo (Ev.ite_pos (by omega) (Ev.now _))
    · refine ⟨r, ?_, by rw [y]; simp [h3], z⟩
      refine Ev.step (fun k => by rw [spec_l2Value.l0]) ?_
      refine Ev.ite_pos hp (Ev.ite_neg h3 ?_)
      rw [hw]; exact x
theorem specValue_out (l : List S63) {a : Nat} {deep : Int} (h : l.length ≤ a) : Ev (fun k => spec_l2Value.f k l (a : Int) deep) (0, 0, false) := by
  refine Ev.step (fun k => by rw [spec_l2Value.f]) ?_
  exact Ev.ite_pos (by omega) (Ev.now _)
theorem specValue_one (l : List S63) {a : Nat} {deep : Int} (h : a < l.length) (hl : l.length ≤ 1048576) (hs : (rd_T63 l (a : Int)).f2.size ≤ 4611686018427387904) (h4 : (rd_T63 l (a : Int)).f0 ≠ 4) :
    ∃ r : Int × Int × Bool, Ev (fun k => spec_l2Value.f k l (a : Int) deep) r ∧ (r.2.2 = true ↔ OkItem (rd_T63 l (a : Int)).f0 (rd_T63 l (a : Int)).f1 (rd_T63 l (a : Int)).f2 (rd_T63 l (a : Int)).f3) ∧ (r.2.2 = true → r.1 = (a : Int) + 1 ∧ r.2.1 = deep) := by
  have hw : wrap64 ((a : Int) + 1) = (a : Int) + 1 := w64 (by omega) (by omega)
  have open_ : ∀ {r}, _ → Ev (fun k => spec_l2Value.f k l (a : Int) deep) r := fun {r} hr => Ev.step (r := r) (fun k => by rw [spec_l2Value.f]) (Ev.ite_neg (by omega) (Ev.ite_pos (by omega) (Ev.ite_pos (by omega) hr)))
  revert open_
  generalize rd_T63 l (a : Int) = x at hs h4 ⊢
  intro open_
  by_cases h1 : x.f0 = 1
  · by_cases hv : 0 ≤ x.f1 ∧ x.f1 ≤ 1000000000
    · by_cases ht : x.f2.size = 0
      · refine ⟨((a : Int) + 1, deep, x.f3 == 0), open_ (Ev.ite_pos h1 ?_), by simp [OkItem, h1, hv, ht], fun _ => ⟨rfl, rfl⟩⟩
        rw [hw, specValue]
        exact Ev.ite_pos (by simpa using hv) (Ev.ite_pos ((toList_nil_iff _).mpr ht) (Ev.now _))
      · refine ⟨((a : Int) + 1, deep, false), open_ (Ev.ite_pos h1 ?_), by simp [OkItem, h1, ht], fun h => by cases h⟩
        rw [hw, specValue]
        exact Ev.ite_pos (by simpa using hv) (Ev.ite_neg (fun h => ht ((toList_nil_iff _).mp h)) (Ev.now _))
    · refine ⟨((a : Int) + 1, deep, false), open_ (Ev.ite_pos h1 ?_), by simp [OkItem, h1]; omega, fun h => by cases h⟩
      rw [hw, specValue]
      exact Ev.ite_neg (by simpa using hv) (Ev.now _)
  · obtain ⟨r, p, q, z⟩ := specText_go a (by omega) deep x.f0 x.f1 x.f2 x.f3 hs x.f2.size 0 (by omega) (by omega)
    by_cases h2 : x.f0 = 2
    · refine ⟨r, open_ (Ev.ite_neg h1 (Ev.ite_pos h2 ?_)), by rw [q]; simp [OkItem, h2], z⟩
      rw [show (x.f0 == 2) = true by simp [h2]]
      refine Ev.step (fun k => by rw [spec_l2Value.j0]) ?_
      exact Ev.ite_pos rfl p
    · by_cases h3 : x.f0 = 3
      · refine ⟨r, open_ (Ev.ite_neg h1 (Ev.ite_neg h2 ?_)), by rw [q]; simp [OkItem, h3], z⟩
        rw [show (x.f0 == 3) = true by simp [h3]]
        refine Ev.step (fun k => by rw [spec_l2Value.j0]) ?_
        exact Ev.ite_pos rfl p
      · refine ⟨(0, 0, false), open_ (Ev.ite_neg h1 (Ev.ite_neg h2 ?_)), by simp [OkItem, h1, h2, h3, h4], fun h => by cases h⟩
        rw [show (x.f0 == 3) = false by simp [h3]]
        refine Ev.step (fun k => by rw [spec_l2Value.j0]) ?_
        exact Ev.ite_neg (by simp) (Ev.ite_neg h4 (Ev.now _))
theorem specValue_noList (l : List S63) {a : Nat} {deep : Int} (h : a < l.length) (hl : l.length ≤ 1048576) (h4 : (rd_T63 l (a : Int)).f0 = 4) (hn : ¬ ((rd_T63 l (a : Int)).f1 = 0 ∧ (rd_T63 l (a : Int)).f2.size = 0 ∧ 0 ≤ (rd_T63 l (a : Int)).f3 ∧ deep ≠ 5)) :
    Ev (fun k => spec_l2Value.f k l (a : Int) deep) (0, 0, false) := by
  have open_ : ∀ {r}, _ → Ev (fun k => spec_l2Value.f k l (a : Int) deep) r := fun {r} hr => Ev.step (r := r) (fun k => by rw [spec_l2Value.f]) (Ev.ite_neg (by omega) (Ev.ite_pos (by omega) (Ev.ite_pos (by omega) hr)))
  revert open_
  generalize rd_T63 l (a : Int) = x at h4 hn ⊢
  intro open_
  refine open_ (Ev.ite_neg (by omega) (Ev.ite_neg (by omega) ?_))
  rw [show (x.f0 == 3) = false by simp [h4]]
  refine Ev.step (fun k => by rw [spec_l2Value.j0]) ?_
  refine Ev.ite_neg (by simp) (Ev.ite_pos h4 ?_)
  have stop : Ev (fun k => spec_l2Value.j2 k l (a : Int) deep true x.f0 x.f1 x.f2 x.f3) (0, 0, false) := by
    refine Ev.step (fun k => by rw [spec_l2Value.j2]) ?_
    exact Ev.ite_pos rfl (Ev.now _)
  refine Ev.ite (fun h1 => Ev.ite (fun h2 => Ev.ite (fun h3 => stop) fun h3 => ?_) fun h2 => stop) fun h1 => stop
  rw [toList_nil_iff] at h2
  have : deep = 5 := by omega
  rw [show (deep == 5) = true by simp [this]]
  exact stop
theorem specValue_list (l : List S63) {a : Nat} {deep : Nat} (h : a < l.length) (hl : l.length ≤ 1048576) (h4 : (rd_T63 l (a : Int)).f0 = 4) (hn : (rd_T63 l (a : Int)).f1 = 0 ∧ (rd_T63 l (a : Int)).f2.size = 0 ∧ 0 ≤ (rd_T63 l (a : Int)).f3 ∧ deep < 5) {r : Int × Int × Bool}
    (hr : Ev (fun k => spec_l2Value.l1 k l (deep : Int) ((deep + 1 : Nat) : Int) ((a + 1 : Nat) : Int) 0 (rd_T63 l (a : Int)).f0 (rd_T63 l (a : Int)).f1 (rd_T63 l (a : Int)).f2 (rd_T63 l (a : Int)).f3) r) :
    Ev (fun k => spec_l2Value.f k l (a : Int) (deep : Int)) r := by
  have hw : wrap64 ((a : Int) + 1) = ((a + 1 : Nat) : Int) := by rw [w64 (by omega) (by omega)]; omega
  have hw2 : wrap64 ((deep : Int) + 1) = ((deep + 1 : Nat) : Int) := by rw [w64 (by omega) (by omega)]; omega
  have open_ : ∀ {r}, _ → Ev (fun k => spec_l2Value.f k l (a : Int) (deep : Int)) r := fun {r} hr => Ev.step (r := r) (fun k => by rw [spec_l2Value.f]) (Ev.ite_neg (by omega) (Ev.ite_pos (by omega) (Ev.ite_pos (by omega) hr)))
  revert open_
  generalize rd_T63 l (a : Int) = x at h4 hn hr ⊢
  intro open_
  refine open_ (Ev.ite_neg (by omega) (Ev.ite_neg (by omega) ?_))
  rw [show (x.f0 == 3) = false by simp [h4]]
  refine Ev.step (fun k => by rw [spec_l2Value.j0]) ?_
  refine Ev.ite_neg (by simp) (Ev.ite_pos h4 (Ev.ite_pos hn.1 (Ev.ite_pos ((toList_nil_iff _).mpr hn.2.1) (Ev.ite_neg (by omega) ?_))))
  rw [show ((deep : Int) == 5) = false by simp; omega]
  refine Ev.step (fun k => by rw [spec_l2Value.j2]) ?_
  refine Ev.ite_neg (by simp) ?_
  rw [hw, hw2]
  exact hr
def Rel (deep : Nat) (r : Int × Int × Bool) (q : Int × Int) : Prop :=
  (r.2.2 = true → q.1 = r.1 ∧ r.2.1 = deep + q.2 ∧ deep + q.2 ≤ 5) ∧ (r.2.2 = false → q.1 = -1 ∨ 5 < deep + q.2)
theorem specLoop_go (l : List S63) (hl : l.length ≤ 1048576) (f0 f1 : Int) (f2 : ByteArray) (many : Int) (hm : many ≤ 9223372036854775807) (deep : Nat) (hd : deep < 5) (b : Nat)
    (Hi : ∀ a : Nat, b ≤ a → a ≤ l.length → ∃ q, Ev (fun k => impl_value.f k l (a : Int)) q ∧ IV l.length a q)
    (H : ∀ a : Nat, b ≤ a → a ≤ l.length → ∃ r, Ev (fun k => spec_l2Value.f k l (a : Int) ((deep + 1 : Nat) : Int)) r ∧ (r.2.2 = true → (a : Int) < r.1 ∧ r.1 ≤ l.length ∧ ((deep + 1 : Nat) : Int) ≤ r.2.1 ∧ r.2.1 ≤ 5) ∧ (l.length ≤ 40 → ∃ q, Ev (fun k => impl_value.f k l (a : Int)) q ∧ IV l.length a q ∧ Rel (deep + 1) r q)) :
    ∀ (e : Nat) (a x : Nat) (j : Int), l.length - a ≤ e → b ≤ a → a ≤ l.length → (l.length ≤ 40 → x ≤ a - b) → deep + 1 + x ≤ 5 → 0 ≤ j →
      ∃ r, Ev (fun k => spec_l2Value.l1 k l (deep : Int) ((deep + 1 + x : Nat) : Int) (a : Int) j f0 f1 f2 many) r ∧ (r.2.2 = true → (a : Int) ≤ r.1 ∧ r.1 ≤ l.length ∧ (deep : Int) + 1 ≤ r.2.1 ∧ r.2.1 ≤ 5 ∧ (j ≤ many → (a : Int) + (many - j) ≤ r.1)) ∧
        (l.length ≤ 40 → ∃ q, Ev (fun k => impl_value.l0 k l (a : Int) (x : Int) many j) q ∧ Rel deep r q) := by
  have stop : ∀ {a x : Nat} {j : Int} {r}, j < many → Ev (fun k => spec_l2Value.f k l (a : Int) ((deep + 1 : Nat) : Int)) r → r.2.2 = false → Ev (fun k => spec_l2Value.l1 k l (deep : Int) ((deep + 1 + x : Nat) : Int) (a : Int) j f0 f1 f2 many) (0, 0, false) := by
    intro a x j r h hr hf
    refine Ev.step (fun k => by rw [spec_l2Value.l1]) ?_
    have hw2 : wrap64 ((deep : Int) + 1) = ((deep + 1 : Nat) : Int) := by rw [w64 (by omega) (by omega)]; omega
    rw [hw2]
    exact Ev.ite_pos h (Ev.bind hr (Ev.ite_neg (by simp [hf]) (Ev.now _)))
  have fin : ∀ {a x : Nat} {j : Int}, ¬ j < many → Ev (fun k => spec_l2Value.l1 k l (deep : Int) ((deep + 1 + x : Nat) : Int) (a : Int) j f0 f1 f2 many) ((a : Int), ((deep + 1 + x : Nat) : Int), true) := by
    intro a x j h
    refine Ev.step (fun k => by rw [spec_l2Value.l1]) ?_
    exact Ev.ite_neg h (Ev.now _)
  have next : ∀ {a x : Nat} {j : Int} {e d : Nat} {r}, 0 ≤ j → j < many → Ev (fun k => spec_l2Value.f k l (a : Int) ((deep + 1 : Nat) : Int)) ((e : Int), ((deep + 1 + d : Nat) : Int), true) → Ev (fun k => spec_l2Value.l1 k l (deep : Int) ((deep + 1 + max x d : Nat) : Int) (e : Int) (j + 1) f0 f1 f2 many) r →
      Ev (fun k => spec_l2Value.l1 k l (deep : Int) ((deep + 1 + x : Nat) : Int) (a : Int) j f0 f1 f2 many) r := by
    intro a x j e d r h0 h hr hn
    refine Ev.step (fun k => by rw [spec_l2Value.l1]) ?_
    have hw2 : wrap64 ((deep : Int) + 1) = ((deep + 1 : Nat) : Int) := by rw [w64 (by omega) (by omega)]; omega
    have hw3 : wrap64 (j + 1) = j + 1 := w64 (by omega) (by omega)
    rw [hw2, hw3]
    refine Ev.ite_pos h (Ev.bind hr (Ev.ite_pos rfl ?_))
    by_cases hxd : x < d
    · refine Ev.ite_pos (by simp only; omega) ?_
      rw [show max x d = d by omega] at hn
      exact hn
    · refine Ev.ite_neg (by simp only; omega) ?_
      rw [show max x d = x by omega] at hn
      exact hn
  intro e
  induction e with
  | zero =>
    intro a x j h0 h1 h2 hx h5 hj
    by_cases hlt : j < many
    · obtain ⟨r, hr, hc, hq⟩ := H a h1 h2
      have hf : r.2.2 = false := by
        rw [← Bool.not_eq_true]; intro ht; have := hc ht; omega
      refine ⟨(0, 0, false), stop hlt hr hf, fun h => (by cases h), fun h40 => ?_⟩
      obtain ⟨q, hq1, hq2, _⟩ := hq h40
      exact ⟨(-1, 0), implLoop_fail l hlt hq1 (by unfold IV at hq2; omega), ⟨fun h => (by cases h), fun _ => .inl rfl⟩⟩
    · exact ⟨_, fin hlt, fun _ => (by simp only; omega), fun _ => ⟨_, implLoop_end l (by omega) hlt, ⟨fun _ => ⟨rfl, (by simp only; omega), (by simp only; omega)⟩, fun h => (by cases h)⟩⟩⟩
  | succ e ih =>
    intro a x j h0 h1 h2 hx h5 hj
    by_cases hlt : j < many
    · obtain ⟨r, hr, hc, hq⟩ := H a h1 h2
      cases hrb : r.2.2 with
      | false =>
        refine ⟨(0, 0, false), stop hlt hr hrb, fun h => (by cases h), fun h40 => ?_⟩
        obtain ⟨q, hq1, hq2, hq3⟩ := hq h40
        rcases hq2 with hq2 | hq2
        · exact ⟨(-1, 0), implLoop_fail l hlt hq1 hq2, ⟨fun h => (by cases h), fun _ => .inl rfl⟩⟩
        · have h6 := hq3.2 hrb
          obtain ⟨f, g, rfl⟩ := pair_nat (show 0 ≤ q.1 by omega) hq2.2.2.1
          simp only at hq2 h6
          obtain ⟨u, hu1, hu2⟩ := implLoop_go l hl many hm b Hi l.length f (max x g) (j + 1) (by omega) (by omega) (by omega) (by have := hx h40; omega) (by omega)
          exact ⟨u, implLoop_next l hm hj hlt hq1 hu1, ⟨fun h => (by cases h), fun _ => (by omega)⟩⟩
      | true =>
        have hc := hc hrb
        obtain ⟨r1, r2, r3⟩ := r
        simp only at hrb hc
        subst hrb
        obtain ⟨f, rfl⟩ := Int.eq_ofNat_of_zero_le (show 0 ≤ r1 by omega)
        obtain ⟨g, hg⟩ := Int.eq_ofNat_of_zero_le (show 0 ≤ r2 - ((deep + 1 : Nat) : Int) by omega)
        obtain rfl : r2 = ((deep + 1 + g : Nat) : Int) := by omega
        have hgx : l.length ≤ 40 → g ≤ f - a := by
          intro h40
          obtain ⟨q, hq1, hq2, hq3⟩ := hq h40
          have h7 := hq3.1 rfl
          simp only at h7
          unfold IV at hq2
          omega
        · obtain ⟨u, hu1, hu2, hu3⟩ := ih f (max x g) (j + 1) (by omega) (by omega) (by omega) (fun h40 => by have := hx h40; have := hgx h40; omega) (by omega) (by omega)
          refine ⟨u, next hj hlt hr hu1, fun h => (by have := hu2 h; omega), fun h40 => ?_⟩
          obtain ⟨q, hq1, hq2, hq3⟩ := hq h40
          have h7 := hq3.1 rfl
          simp only at h7
          obtain ⟨v, hv1, hv2⟩ := hu3 h40
          obtain ⟨q1, q2⟩ := q
          simp only at h7
          obtain rfl : q1 = (f : Int) := h7.1
          obtain rfl : q2 = (g : Int) := by omega
          exact ⟨v, implLoop_next l hm hj hlt hq1 hv1, hv2⟩
    · exact ⟨_, fin hlt, fun _ => (by simp only; omega), fun _ => ⟨_, implLoop_end l (by omega) hlt, ⟨fun _ => ⟨rfl, (by simp only; omega), (by simp only; omega)⟩, fun h => (by cases h)⟩⟩⟩
theorem specValue_all (l : List S63) (hl : l.length ≤ 1048576) (hs : ∀ a : Nat, a < l.length → (rd_T63 l (a : Int)).f2.size ≤ 4611686018427387904) (hm : ∀ a : Nat, a < l.length → (rd_T63 l (a : Int)).f3 ≤ 9223372036854775807) (d : Nat) : ∀ (a deep : Nat), l.length - a ≤ d → a ≤ l.length → deep ≤ 5 →
    ∃ r, Ev (fun k => spec_l2Value.f k l (a : Int) (deep : Int)) r ∧ (r.2.2 = true → (a : Int) < r.1 ∧ r.1 ≤ l.length ∧ (deep : Int) ≤ r.2.1 ∧ r.2.1 ≤ 5) ∧ (l.length ≤ 40 → ∃ q, Ev (fun k => impl_value.f k l (a : Int)) q ∧ IV l.length a q ∧ Rel deep r q) := by
  induction d with
  | zero =>
    intro a deep h0 h1 h2
    exact ⟨(0, 0, false), specValue_out l (by omega), fun h => (by cases h), fun _ => ⟨(-1, 0), implValue_out l (by omega), .inl rfl, ⟨fun h => (by cases h), fun _ => .inl rfl⟩⟩⟩
  | succ d ih =>
    intro a deep h0 h1 h2
    by_cases hlt : a < l.length
    · have hbad : ¬ OkItem (rd_T63 l (a : Int)).f0 (rd_T63 l (a : Int)).f1 (rd_T63 l (a : Int)).f2 (rd_T63 l (a : Int)).f3 → ∃ q, Ev (fun k => impl_value.f k l (a : Int)) q ∧ IV l.length a q ∧ q.1 = -1 := fun hk =>
        ⟨(-1, 0), implValue_bad l hlt (hs a hlt) hk, .inl rfl, rfl⟩
      by_cases h4 : (rd_T63 l (a : Int)).f0 = 4
      · obtain ⟨q, hq1, hq2⟩ := implValue_all l hl hs l.length a (by omega) h1
        by_cases hn : (rd_T63 l (a : Int)).f1 = 0 ∧ (rd_T63 l (a : Int)).f2.size = 0 ∧ 0 ≤ (rd_T63 l (a : Int)).f3
        · by_cases h5 : deep < 5
          · obtain ⟨r, hr1, hr2, hr3⟩ := specLoop_go l hl (rd_T63 l (a : Int)).f0 (rd_T63 l (a : Int)).f1 (rd_T63 l (a : Int)).f2 (rd_T63 l (a : Int)).f3 (hm a hlt) deep h5 (a + 1)
              (fun a' _ h3 => implValue_all l hl hs l.length a' (by omega) h3) (fun a' h2' h3 => ih a' (deep + 1) (by omega) h3 (by omega)) l.length (a + 1) 0 0 (by omega) (by omega) (by omega) (fun _ => by omega) (by omega) (by omega)
            refine ⟨r, specValue_list l hlt hl h4 ⟨hn.1, hn.2.1, hn.2.2, h5⟩ hr1, fun h => (by have := hr2 h; omega), fun h40 => ?_⟩
            by_cases hk : OkItem (rd_T63 l (a : Int)).f0 (rd_T63 l (a : Int)).f1 (rd_T63 l (a : Int)).f2 (rd_T63 l (a : Int)).f3
            · obtain ⟨q', hq3, hq4⟩ := hr3 h40
              have e := Ev.uniq hq1 (implValue_list l hlt hl (hs a hlt) hk h4 hq3)
              subst e
              exact ⟨q, hq1, hq2, hq4⟩
            · obtain ⟨q', hq3, hq4, hq5⟩ := hbad hk
              refine ⟨q', hq3, hq4, ⟨fun h => ?_, fun _ => .inl hq5⟩⟩
              have h6 := hr2 h
              unfold OkItem at hk
              omega
          · refine ⟨(0, 0, false), specValue_noList l hlt hl h4 (by omega), fun h => (by cases h), fun h40 => ⟨q, hq1, hq2, ⟨fun h => (by cases h), fun _ => ?_⟩⟩⟩
            by_cases hk : OkItem (rd_T63 l (a : Int)).f0 (rd_T63 l (a : Int)).f1 (rd_T63 l (a : Int)).f2 (rd_T63 l (a : Int)).f3
            · obtain ⟨q', hq3, hq4⟩ := implLoop_go l hl (rd_T63 l (a : Int)).f3 (hm a hlt) (a + 1) (fun a' _ h3 => implValue_all l hl hs l.length a' (by omega) h3) l.length (a + 1) 0 0 (by omega) (by omega) (by omega) (by omega) (by omega)
              have e := Ev.uniq hq1 (implValue_list l hlt hl (hs a hlt) hk h4 hq3)
              subst e
              omega
            · obtain ⟨q', hq3, hq4, hq5⟩ := hbad hk
              have e := Ev.uniq hq1 hq3
              subst e
              exact .inl hq5
        · have hk : ¬ OkItem (rd_T63 l (a : Int)).f0 (rd_T63 l (a : Int)).f1 (rd_T63 l (a : Int)).f2 (rd_T63 l (a : Int)).f3 := by unfold OkItem; omega
          obtain ⟨q', hq3, hq4, hq5⟩ := hbad hk
          exact ⟨(0, 0, false), specValue_noList l hlt hl h4 (by omega), fun h => (by cases h), fun h40 => ⟨q', hq3, hq4, ⟨fun h => (by cases h), fun _ => .inl hq5⟩⟩⟩
      · obtain ⟨r, hr1, hr2, hr3⟩ := specValue_one l (deep := (deep : Int)) hlt hl (hs a hlt) h4
        refine ⟨r, hr1, fun h => (by have := hr3 h; omega), fun h40 => ?_⟩
        by_cases hk : OkItem (rd_T63 l (a : Int)).f0 (rd_T63 l (a : Int)).f1 (rd_T63 l (a : Int)).f2 (rd_T63 l (a : Int)).f3
        · have h7 := hr3 (hr2.mpr hk)
          exact ⟨_, implValue_one l hlt hl (hs a hlt) hk h4, .inr (by simp only; omega), ⟨fun _ => ⟨h7.1.symm, (by simp only; omega), (by simp only; omega)⟩, fun h => (by rw [hr2.mpr hk] at h; cases h)⟩⟩
        · obtain ⟨q', hq3, hq4, hq5⟩ := hbad hk
          exact ⟨q', hq3, hq4, ⟨fun h => absurd (hr2.mp h) hk, fun _ => .inl hq5⟩⟩
    · exact ⟨(0, 0, false), specValue_out l (by omega), fun h => (by cases h), fun _ => ⟨(-1, 0), implValue_out l (by omega), .inl rfl, ⟨fun h => (by cases h), fun _ => .inl rfl⟩⟩⟩
theorem goodItems_both (l : List S63) (hl : l.length ≤ 1048576) (hs : ∀ a : Nat, a < l.length → (rd_T63 l (a : Int)).f2.size ≤ 4611686018427387904) (hm : ∀ a : Nat, a < l.length → (rd_T63 l (a : Int)).f3 ≤ 9223372036854775807) :
    ∃ b : Bool, Ev (fun k => spec_GoodItems.f k l) b ∧ Ev (fun k => impl_GoodItems.f k l) b ∧
      (b = true → (∀ i : Nat, i < l.length → OkAt l i) ∧ (itemsText l).size ≤ 400 ∧ 1 ≤ l.length ∧ l.length ≤ 40 ∧ ∃ dp : Nat, Ev (fun k => spec_l2Value.f k l 0 0) ((l.length : Int), (dp : Int), true) ∧ Ev (fun k => impl_value.f k l 0) ((l.length : Int), (dp : Int)) ∧ dp ≤ 5) := by
  obtain ⟨r, hr, hc, hq⟩ := specValue_all l hl hs hm l.length 0 0 (by omega) (by omega) (by omega)
  have hr0 : Ev (fun k => spec_l2Value.f k l 0 0) r := hr
  by_cases h40 : 1 ≤ l.length ∧ l.length ≤ 40
  · obtain ⟨q, hq1, hq2, hq3⟩ := hq h40.2
    obtain ⟨q', hq4, hq5, hq6⟩ := implValue_ok l hl hs l.length 0 (by omega) (by omega)
    have e := Ev.uniq hq1 hq4
    subst e
    have hq0 : Ev (fun k => impl_value.f k l 0) q := hq1
    by_cases hg : r.2.2 = true ∧ r.1 = (l.length : Int)
    · have h7 := hq3.1 hg.1
      have hcc := hc hg.1
      have ok : ∀ i : Nat, i < l.length → OkAt l i := by
        rcases hq6 with hq6 | hq6
        · omega
        · exact fun i hi => hq6 i (by omega) (by omega)
      obtain ⟨bs, bi⟩ := bytes_both l hl ok
      obtain ⟨r1, r2, r3⟩ := r
      obtain ⟨q1, q2⟩ := q
      simp only at hg h7 hcc
      obtain ⟨hg1, hg2⟩ := hg
      subst hg1
      obtain ⟨dp, hdp⟩ := Int.eq_ofNat_of_zero_le (show 0 ≤ q2 by unfold IV at hq5; simp only at hq5; omega)
      obtain rfl : r2 = (dp : Int) := by omega
      obtain rfl : r1 = (l.length : Int) := hg2
      obtain rfl : q1 = (l.length : Int) := h7.1
      obtain rfl : q2 = (dp : Int) := hdp
      refine ⟨decide (((itemsText l).size : Int) ≤ 400), ?_, ?_, fun h => ⟨ok, by have := of_decide_eq_true h; omega, h40.1, h40.2, dp, hr0, hq0, by omega⟩⟩
      · simp only [spec_GoodItems.f, spec_l2Good.f]
        refine Ev.bind (Ev.bind hr0 (Ev.ite_pos rfl (Ev.ite_pos rfl (Ev.now _)))) ?_
        refine Ev.ite_pos (decide_eq_true (by omega)) (Ev.bind bs (Ev.now _))
      · simp only [impl_GoodItems.f, implWithin, Option.bind_some]
        refine Ev.ite_pos (decide_eq_true (by omega)) (Ev.bind hq0 (Ev.ite_pos rfl (Ev.ite_pos (by simp only; omega) (Ev.bind bi (Ev.now _)))))
    · refine ⟨false, ?_, ?_, fun h => by cases h⟩
      · simp only [spec_GoodItems.f, spec_l2Good.f]
        refine Ev.bind (a := false) (Ev.bind hr0 ?_) (Ev.ite_neg (by simp) (Ev.now _))
        refine Ev.ite (fun h1 => Ev.ite_neg (fun h2 => hg ⟨h1, h2⟩) (Ev.now _)) fun _ => Ev.now _
      · simp only [impl_GoodItems.f, implWithin, Option.bind_some]
        refine Ev.ite_pos (decide_eq_true (by omega)) (Ev.bind hq0 ?_)
        refine Ev.ite (fun h1 => Ev.ite_neg ?_ (Ev.now _)) fun _ => Ev.now _
        intro h5
        cases hb : r.2.2 with
        | true =>
          have h7 := hq3.1 hb
          exact hg ⟨hb, by omega⟩
        | false =>
          have h7 := hq3.2 hb
          omega
  · refine ⟨false, ?_, ?_, fun h => by cases h⟩
    · simp only [spec_GoodItems.f, spec_l2Good.f]
      refine Ev.bind (a := false) (Ev.bind hr0 ?_) (Ev.ite_neg (by simp) (Ev.now _))
      refine Ev.ite (fun h1 => Ev.ite (fun h2 => ?_) fun _ => Ev.now _) fun _ => Ev.now _
      have := hc h1
      exact Ev.now' (decide_eq_false (by omega))
    · simp only [impl_GoodItems.f, implWithin, Option.bind_some]
      exact Ev.ite_neg (by simp; omega) (Ev.now _)
theorem headEnd_cases (s : ByteArray) (a m n e : Nat) : headEnd s a m n e = (0, 0, 0, false) ∨ (headEnd s a m n e = ((m : Int), (n : Int), (e : Int), true) ∧ n ≤ 1000000000 ∧ headText (m : Int) (n : Int) = s.extract a e) := by
  unfold headEnd
  by_cases h : n ≤ 1000000000 ∧ (headText (m : Int) (n : Int)).toList = (s.extract a e).toList
  · rw [if_pos h]
    refine .inr ⟨rfl, h.1, ?_⟩
    have := h.2
    rw [ByteArray.toList_eq, ByteArray.toList_eq] at this
    exact str_ext this
  · rw [if_neg h]
    exact .inl rfl
theorem headAt_cases (s : ByteArray) (a : Nat) : headAt s a = (0, 0, 0, false) ∨ ∃ m n e : Nat, headAt s a = ((m : Int), (n : Int), (e : Int), true) ∧ m ≤ 7 ∧ n ≤ 1000000000 ∧ a < e ∧ e ≤ s.size ∧ headText (m : Int) (n : Int) = s.extract a e := by
  have hb := byteAt_lt s a
  unfold headAt
  by_cases h : byteAt s a % 32 > 26 ∨ a + 1 + manyOf (byteAt s a % 32) > s.size
  · rw [if_pos h]; exact .inl rfl
  · rw [if_neg h]
    rcases headEnd_cases s a (byteAt s a / 32) (if manyOf (byteAt s a % 32) = 0 then byteAt s a % 32 else numAt s (a + 1) (manyOf (byteAt s a % 32))) (a + 1 + manyOf (byteAt s a % 32)) with h1 | ⟨h1, h2, h3⟩
    · exact .inl h1
    · exact .inr ⟨_, _, _, h1, by omega, h2, by omega, by omega, h3⟩
def stepOf (s : ByteArray) (q : Int × Int × Int × Bool) : Option (S63 × Int) :=
  if q.2.2.2 = true then
    if q.1 = 0 then some (⟨1, q.2.1, ⟨#[]⟩, 0⟩, q.2.2.1)
    else if q.1 = 4 then some (⟨4, 0, ⟨#[]⟩, q.2.1⟩, q.2.2.1)
    else if q.1 = 2 ∨ q.1 = 3 then if q.2.1 ≤ (s.size : Int) - q.2.2.1 then some (⟨q.1, 0, s.extract q.2.2.1.toNat (q.2.2.1 + q.2.1).toNat, 0⟩, q.2.2.1 + q.2.1) else none
    else none
  else none
def stepAt (s : ByteArray) (a : Nat) : Option (S63 × Int) := stepOf s (headAt s a)
theorem extract_join (s : ByteArray) (a b c : Nat) (h1 : a ≤ b) (h2 : b ≤ c) : s.extract a b ++ s.extract b c = s.extract a c := by
  rw [ByteArray.extract_append_extract]
  congr 1 <;> omega
theorem stepAt_some {s : ByteArray} {a : Nat} {x : S63} {e : Int} (h : stepAt s a = some (x, e)) :
    ∃ b : Nat, e = (b : Int) ∧ a < b ∧ b ≤ s.size ∧ itemText x.f0 x.f1 x.f2 x.f3 = s.extract a b ∧ x.f2.size ≤ s.size ∧ x.f3 ≤ 1000000000 := by
  unfold stepAt at h
  rcases headAt_cases s a with h0 | ⟨m, n, b, h0, h1, h2, h3, h4, h5⟩
  · rw [h0] at h
    simp [stepOf] at h
  · rw [h0] at h
    unfold stepOf at h
    simp only [if_true] at h
    by_cases m0 : (m : Int) = 0
    · rw [if_pos m0] at h
      simp only [Option.some.injEq, Prod.mk.injEq] at h
      obtain ⟨rfl, rfl⟩ := h
      rw [m0] at h5
      exact ⟨b, rfl, h3, h4, by simp only [itemText, if_true]; exact h5, Nat.zero_le _, by simp⟩
    · rw [if_neg m0] at h
      by_cases m4 : (m : Int) = 4
      · rw [if_pos m4] at h
        simp only [Option.some.injEq, Prod.mk.injEq] at h
        obtain ⟨rfl, rfl⟩ := h
        rw [m4] at h5
        exact ⟨b, rfl, h3, h4, by simp [itemText]; exact h5, Nat.zero_le _, by simp only; omega⟩
      · rw [if_neg m4] at h
        by_cases m2 : (m : Int) = 2 ∨ (m : Int) = 3
        · rw [if_pos m2] at h
          by_cases hn : (n : Int) ≤ (s.size : Int) - (b : Int)
          · rw [if_pos hn] at h
            simp only [Option.some.injEq, Prod.mk.injEq] at h
            obtain ⟨rfl, rfl⟩ := h
            have hz : (s.extract b (b + n)).size = n := by rw [ByteArray.size_extract]; omega
            have ex : s.extract ((b : Int)).toNat ((b : Int) + (n : Int)).toNat = s.extract b (b + n) := by
              congr 1
            refine ⟨b + n, by simp, by omega, by omega, ?_, ?_, by simp⟩
            · simp only [ex]
              rw [← extract_join s a b (b + n) (by omega) (by omega), ← h5]
              unfold itemText
              rcases m2 with m2 | m2
              · rw [m2, if_neg (by decide), if_pos rfl, hz]
              · rw [m2, if_neg (by decide), if_neg (by decide), if_pos rfl, hz]
            · simp only [ex]
              omega
          · rw [if_neg hn] at h
            cases h
        · rw [if_neg m2] at h
          cases h
theorem itemsText_append (l k : List S63) : itemsText (l ++ k) = itemsText l ++ itemsText k := by
  induction l with
  | nil => simp only [List.nil_append, itemsText, empty_append]
  | cons x l ih => simp only [List.cons_append, itemsText, ih, append_assoc']
theorem specRead_step {s : ByteArray} (hs : s.size ≤ 400) {out : List S63} {a : Nat} (ha : a < s.size) (hl : out.length ≤ 40) {r : List S63 × Bool}
    (h0 : stepAt s a = none → r = ([], false)) (h1 : ∀ x e, stepAt s a = some (x, e) → Ev (fun k => spec_ReadItems.l0 k s (out ++ [x]) e) r) : Ev (fun k => spec_ReadItems.l0 k s out (a : Int)) r := by
  have c1 : (a : Int) < (s.size : Int) := by omega
  have c2 : (out.length : Int) ≤ 40 := by omega
  have c3 : out.length < 3518437208883 := by omega
  refine Ev.step (fun k => by rw [spec_ReadItems.l0]) ?_
  refine Ev.ite_pos c1 ?_
  rw [decide_eq_true c2]
  refine Ev.step (fun k => by rw [spec_ReadItems.j1]) ?_
  refine Ev.ite_pos rfl (Ev.bind (specTakeHead (by omega) a ha) ?_)
  unfold stepAt at h0 h1
  rcases headAt_cases s a with e0 | ⟨m, n, b, e0, e1, e2, e3, e4, e5⟩
  · rw [e0] at h0 h1 ⊢
    rw [h0 (by simp [stepOf])]
    exact Ev.ite_neg (by decide) (Ev.now _)
  · rw [e0] at h0 h1 ⊢
    unfold stepOf at h0 h1
    simp only [if_true] at h0 h1 ⊢
    by_cases m0 : (m : Int) = 0
    · rw [if_pos m0] at h0 h1
      exact Ev.ite_pos m0 (Ev.ite_pos c3 (h1 _ _ rfl))
    · rw [if_neg m0] at h0 h1
      refine Ev.ite_neg m0 ?_
      by_cases m4 : (m : Int) = 4
      · rw [if_pos m4] at h0 h1
        exact Ev.ite_pos m4 (Ev.ite_pos c3 (h1 _ _ rfl))
      · rw [if_neg m4] at h0 h1
        refine Ev.ite_neg m4 ?_
        have ws : wrap64 ((s.size : Int) - (b : Int)) = (s.size : Int) - (b : Int) := w64 (by omega) (by omega)
        rw [ws]
        have txt : (m : Int) = 2 ∨ (m : Int) = 3 → Ev (fun k => if (n : Int) ≤ (s.size : Int) - (b : Int) then (if 0 ≤ (b : Int) then (if (b : Int) ≤ (wrap64 ((b : Int) + (n : Int))) then (if (wrap64 ((b : Int) + (n : Int))) ≤ (s.size : Int) then (if out.length < 3518437208883 then (spec_ReadItems.l0 k s (out ++ [(⟨wrap64 ((wrap64 (2 + (m : Int))) - 2), 0, s.extract (b : Int).toNat ((wrap64 ((b : Int) + (n : Int))) : Int).toNat, 0⟩ : S63)]) (wrap64 ((b : Int) + (n : Int)))) else (none)) else (none)) else (none)) else (none)) else (some (([] : List S63), false))) r := by
          intro m23
          rw [if_pos m23] at h0 h1
          by_cases hn : (n : Int) ≤ (s.size : Int) - (b : Int)
          · rw [if_pos hn] at h0 h1
            have wb : wrap64 ((b : Int) + (n : Int)) = (b : Int) + (n : Int) := w64 (by omega) (by omega)
            have wm : wrap64 (wrap64 (2 + (m : Int)) - 2) = (m : Int) := by rw [w64 (x := 2 + (m : Int)) (by omega) (by omega), w64 (by omega) (by omega)]; omega
            rw [wb, wm]
            exact Ev.ite_pos hn (Ev.ite_pos (by omega) (Ev.ite_pos (by omega) (Ev.ite_pos (by omega) (Ev.ite_pos c3 (h1 _ _ rfl)))))
          · rw [if_neg hn] at h0 h1
            rw [h0 rfl]
            exact Ev.ite_neg hn (Ev.now _)
        by_cases m2 : (m : Int) = 2
        · exact Ev.ite_pos m2 (txt (.inl m2))
        · refine Ev.ite_neg m2 ?_
          by_cases m3 : (m : Int) = 3
          · exact Ev.ite_pos m3 (txt (.inr m3))
          · rw [if_neg (show ¬ ((m : Int) = 2 ∨ (m : Int) = 3) from fun h => h.elim m2 m3)] at h0
            rw [h0 rfl]
            exact Ev.ite_neg m3 (Ev.now _)
theorem implRead_full {s : ByteArray} (hs : s.size ≤ 400) {out : List S63} {a : Nat} (ha : a < s.size) (hl : out.length = 40) : Ev (fun k => impl_ReadItems.l0 k s out (a : Int)) ([], false) := by
  have c1 : (a : Int) < (s.size : Int) := by omega
  have c2 : ((out.length : Int) == 40) = true := by simp; omega
  have fin : ∀ p q e, Ev (fun k => impl_ReadItems.j1 k s out p q e true) ([], false) := fun p q e => by
    refine Ev.step (fun k => by rw [impl_ReadItems.j1]) ?_
    exact Ev.ite_pos rfl (Ev.now _)
  refine Ev.step (fun k => by rw [impl_ReadItems.l0]) ?_
  refine Ev.ite_pos c1 (Ev.bind (implTakeHead (by omega) a ha) ?_)
  rw [c2]
  exact Ev.ite (fun _ => fin _ _ _) fun _ => fin _ _ _
theorem implRead_step {s : ByteArray} (hs : s.size ≤ 400) {out : List S63} {a : Nat} (ha : a < s.size) (hl : out.length < 40) {r : List S63 × Bool}
    (h0 : stepAt s a = none → r = ([], false)) (h1 : ∀ x e, stepAt s a = some (x, e) → Ev (fun k => impl_ReadItems.l0 k s (out ++ [x]) e) r) : Ev (fun k => impl_ReadItems.l0 k s out (a : Int)) r := by
  have c1 : (a : Int) < (s.size : Int) := by omega
  have c2 : ((out.length : Int) == 40) = false := by simp; omega
  have c3 : out.length < 3518437208883 := by omega
  refine Ev.step (fun k => by rw [impl_ReadItems.l0]) ?_
  refine Ev.ite_pos c1 (Ev.bind (implTakeHead (by omega) a ha) ?_)
  unfold stepAt at h0 h1
  rcases headAt_cases s a with e0 | ⟨m, n, b, e0, e1, e2, e3, e4, e5⟩
  · rw [e0] at h0 h1 ⊢
    rw [h0 (by simp [stepOf])]
    refine Ev.ite_neg (by decide) ?_
    refine Ev.step (fun k => by rw [impl_ReadItems.j1]) ?_
    exact Ev.ite_pos rfl (Ev.now _)
  · rw [e0] at h0 h1 ⊢
    unfold stepOf at h0 h1
    rw [c2]
    refine Ev.ite_pos rfl ?_
    refine Ev.step (fun k => by rw [impl_ReadItems.j1]) ?_
    refine Ev.ite_neg (by decide) ?_
    simp only [if_true] at h0 h1 ⊢
    by_cases m0 : (m : Int) = 0
    · rw [if_pos m0] at h0 h1
      exact Ev.ite_pos m0 (Ev.ite_pos c3 (h1 _ _ rfl))
    · rw [if_neg m0] at h0 h1
      refine Ev.ite_neg m0 ?_
      have ws : wrap64 ((s.size : Int) - (b : Int)) = (s.size : Int) - (b : Int) := w64 (by omega) (by omega)
      by_cases m2 : (m : Int) = 2 ∨ (m : Int) = 3
      · have m4 : ¬ (m : Int) = 4 := by omega
        rw [if_neg m4, if_pos m2] at h0 h1
        have txt : Ev (fun k => impl_ReadItems.j2 k s out (b : Int) (m : Int) (n : Int) (m : Int) true) r := by
          refine Ev.step (fun k => by rw [impl_ReadItems.j2]) ?_
          refine Ev.ite_pos rfl ?_
          rw [ws]
          by_cases hn : (n : Int) ≤ (s.size : Int) - (b : Int)
          · rw [if_pos hn] at h0 h1
            have wb : wrap64 ((b : Int) + (n : Int)) = (b : Int) + (n : Int) := w64 (by omega) (by omega)
            rw [wb]
            exact Ev.ite_neg (by omega) (Ev.ite_pos (by omega) (Ev.ite_pos (by omega) (Ev.ite_pos (by omega) (Ev.ite_pos c3 (h1 _ _ rfl)))))
          · rw [if_neg hn] at h0 h1
            rw [h0 rfl]
            exact Ev.ite_pos (by omega) (Ev.now _)
        rcases m2 with m2 | m2
        · rw [show ((m : Int) == 2) = true by rw [m2]; rfl]
          exact Ev.ite_pos m2 txt
        · rw [show ((m : Int) == 3) = true by rw [m2]; rfl]
          exact Ev.ite_neg (by omega) txt
      · rw [show ((m : Int) == 2) = false by simp; omega, show ((m : Int) == 3) = false by simp; omega]
        refine Ev.ite_neg (by omega) ?_
        refine Ev.step (fun k => by rw [impl_ReadItems.j2]) ?_
        refine Ev.ite_neg (by decide) ?_
        by_cases m4 : (m : Int) = 4
        · rw [if_pos m4] at h0 h1
          exact Ev.ite_pos m4 (Ev.ite_pos c3 (h1 _ _ rfl))
        · rw [if_neg m4, if_neg m2] at h0
          rw [h0 rfl]
          exact Ev.ite_neg m4 (Ev.now _)
def Small (l : List S63) : Prop := ∀ x ∈ l, x.f2.size ≤ 4611686018427387904 ∧ x.f3 ≤ 9223372036854775807
theorem Small.at {l : List S63} (h : Small l) : (∀ a : Nat, a < l.length → (rd_T63 l (a : Int)).f2.size ≤ 4611686018427387904) ∧ (∀ a : Nat, a < l.length → (rd_T63 l (a : Int)).f3 ≤ 9223372036854775807) := by
  constructor <;> intro a ha <;> rw [rdT_eq l a ha]
  · exact (h _ (List.getElem_mem ha)).1
  · exact (h _ (List.getElem_mem ha)).2
theorem Small.snoc {l : List S63} (h : Small l) {x : S63} (h1 : x.f2.size ≤ 4611686018427387904) (h2 : x.f3 ≤ 9223372036854775807) : Small (l ++ [x]) := by
  intro y hy
  rcases List.mem_append.mp hy with hy | hy
  · exact h y hy
  · rw [List.mem_singleton.mp hy]; exact ⟨h1, h2⟩
theorem specRead_end {s : ByteArray} {out : List S63} {a : Int} (hl : out.length ≤ 1048576) (hsm : Small out) (h : ¬ a < (s.size : Int) ∨ ¬ (out.length : Int) ≤ 40) {v : List S63 × Bool}
    (hv : ∀ b : Bool, Ev (fun k => spec_GoodItems.f k out) b → Ev (fun k => impl_GoodItems.f k out) b → (b = true → Ev (fun k => spec_l2Bytes.f k out) (itemsText out) ∧ out.length ≤ 40) → v = if b = true ∧ (itemsText out).toList = s.toList then (out, true) else ([], false)) :
    Ev (fun k => spec_ReadItems.l0 k s out a) v := by
  obtain ⟨b, x, y, z⟩ := goodItems_both out hl hsm.at.1 hsm.at.2
  have zb : b = true → Ev (fun k => spec_l2Bytes.f k out) (itemsText out) ∧ out.length ≤ 40 := fun hb => ⟨(bytes_both out hl (z hb).1).1, (z hb).2.2.2.1⟩
  have hvb := hv b x y zb
  have fin : Ev (fun k => spec_ReadItems.j1 k s out a false) v := by
    refine Ev.step (fun k => by rw [spec_ReadItems.j1]) ?_
    refine Ev.ite_neg (by decide) (Ev.bind x ?_)
    cases b with
    | false =>
      rw [if_neg (by simp)] at hvb
      rw [hvb]
      exact Ev.ite_neg (by decide) (Ev.now _)
    | true =>
      refine Ev.ite_pos rfl (Ev.bind (zb rfl).1 ?_)
      by_cases ht : (itemsText out).toList = s.toList
      · rw [if_pos ⟨rfl, ht⟩] at hvb
        rw [hvb]
        exact Ev.ite_pos ht (Ev.now _)
      · rw [if_neg (fun hh => ht hh.2)] at hvb
        rw [hvb]
        exact Ev.ite_neg ht (Ev.now _)
  refine Ev.step (fun k => by rw [spec_ReadItems.l0]) ?_
  by_cases ha : a < (s.size : Int)
  · rw [decide_eq_false (h.resolve_left (fun hh => hh ha))]
    exact Ev.ite_pos ha fin
  · exact Ev.ite_neg ha fin
theorem readItems_go {s : ByteArray} (hs : s.size ≤ 400) (d : Nat) : ∀ (out : List S63) (a : Nat), s.size - a ≤ d → a ≤ s.size → out.length ≤ 40 → Small out → itemsText out = s.extract 0 a →
    ∃ v : List S63 × Bool, Ev (fun k => spec_ReadItems.l0 k s out (a : Int)) v ∧ Ev (fun k => impl_ReadItems.l0 k s out (a : Int)) v ∧ (v = ([], false) ∨ v.2 = true ∧ v.1.length ≤ 40 ∧ Small v.1 ∧ Ev (fun k => spec_GoodItems.f k v.1) true ∧ itemsText v.1 = s) := by
  have atEnd : ∀ (out : List S63), out.length ≤ 40 → Small out → itemsText out = s.extract 0 s.size →
      ∃ v : List S63 × Bool, Ev (fun k => spec_ReadItems.l0 k s out (s.size : Int)) v ∧ Ev (fun k => impl_ReadItems.l0 k s out (s.size : Int)) v ∧ (v = ([], false) ∨ v.2 = true ∧ v.1.length ≤ 40 ∧ Small v.1 ∧ Ev (fun k => spec_GoodItems.f k v.1) true ∧ itemsText v.1 = s) := by
    intro out hl hsm ht
    have hts : itemsText out = s := by rw [ht]; exact ByteArray.extract_zero_size
    obtain ⟨b, x, y, z⟩ := goodItems_both out (by omega) hsm.at.1 hsm.at.2
    refine ⟨if b = true ∧ (itemsText out).toList = s.toList then (out, true) else ([], false), specRead_end (by omega) hsm (.inl (by omega)) (fun b' x' _ _ => by rw [Ev.uniq x' x]), ?_, ?_⟩
    · refine Ev.step (fun k => by rw [impl_ReadItems.l0]) ?_
      refine Ev.ite_neg (by omega) (Ev.bind y ?_)
      cases b with
      | false =>
        rw [if_neg (show ¬ (false = true ∧ (itemsText out).toList = s.toList) from fun h => by cases h.1)]
        exact Ev.ite_neg Bool.false_ne_true (Ev.now _)
      | true =>
        rw [if_pos (show true = true ∧ (itemsText out).toList = s.toList from ⟨rfl, by rw [hts]⟩)]
        exact Ev.ite_pos rfl (Ev.now _)
    · cases b with
      | false => rw [if_neg (show ¬ (false = true ∧ (itemsText out).toList = s.toList) from fun h => by cases h.1)]; exact .inl rfl
      | true => rw [if_pos (show true = true ∧ (itemsText out).toList = s.toList from ⟨rfl, by rw [hts]⟩)]; exact .inr ⟨rfl, hl, hsm, x, hts⟩
  induction d with
  | zero =>
    intro out a h0 h1 h2 h3 h4
    obtain rfl : a = s.size := by omega
    exact atEnd out h2 h3 h4
  | succ d ih =>
    intro out a h0 h1 h2 h3 h4
    by_cases ha : a < s.size
    · cases hst : stepAt s a with
      | none =>
        refine ⟨([], false), specRead_step hs ha h2 (fun _ => rfl) (fun x e h => by rw [hst] at h; cases h), ?_, .inl rfl⟩
        by_cases hl : out.length = 40
        · exact implRead_full hs ha hl
        · exact implRead_step hs ha (by omega) (fun _ => rfl) (fun x e h => by rw [hst] at h; cases h)
      | some q =>
        obtain ⟨x, e⟩ := q
        obtain ⟨b, rfl, g1, g2, g3, g4, g5⟩ := stepAt_some hst
        have sm : Small (out ++ [x]) := h3.snoc (by omega) (by omega)
        have ln : (out ++ [x]).length = out.length + 1 := by simp
        have tx : itemsText (out ++ [x]) = s.extract 0 b := by
          rw [itemsText_append, h4]
          simp only [itemsText, append_empty]
          rw [g3]
          exact extract_join s 0 a b (by omega) (by omega)
        by_cases hl : out.length = 40
        · refine ⟨([], false), specRead_step hs ha h2 (fun _ => rfl) (fun x' e' h => ?_), implRead_full hs ha hl, .inl rfl⟩
          rw [hst] at h
          injection h with h
          injection h with hx he
          subst hx; subst he
          refine specRead_end (by omega) sm (.inr (by omega)) (fun b' _ _ z => ?_)
          rw [if_neg (fun hh => by have := (z hh.1).2; omega)]
        · obtain ⟨v, v1, v2, v3⟩ := ih (out ++ [x]) b (by omega) g2 (by omega) sm tx
          refine ⟨v, specRead_step hs ha h2 (fun h => by rw [hst] at h; cases h) (fun x' e' h => ?_), implRead_step hs ha (by omega) (fun h => by rw [hst] at h; cases h) (fun x' e' h => ?_), v3⟩
          · rw [hst] at h
            injection h with h
            injection h with hx he
            subst hx; subst he
            exact v1
          · rw [hst] at h
            injection h with h
            injection h with hx he
            subst hx; subst he
            exact v2
    · obtain rfl : a = s.size := by omega
      exact atEnd out h2 h3 h4
theorem readItems_both (s : ByteArray) : ∃ v : List S63 × Bool, Ev (fun k => spec_ReadItems.f k s) v ∧ Ev (fun k => impl_ReadItems.f k s) v ∧ (v = ([], false) ∨ v.2 = true ∧ v.1.length ≤ 40 ∧ Small v.1 ∧ Ev (fun k => spec_GoodItems.f k v.1) true ∧ itemsText v.1 = s) := by
  simp only [spec_ReadItems.f, impl_ReadItems.f]
  by_cases h : (s.size : Int) > 400
  · exact ⟨([], false), Ev.ite_pos h (Ev.now _), Ev.ite_pos h (Ev.now _), .inl rfl⟩
  · obtain ⟨v, a, b, c⟩ := readItems_go (s := s) (by omega) s.size [] 0 (by omega) (by omega) (by simp) (fun x hx => by cases hx) (by simp only [itemsText]; rw [ByteArray.extract_same]; rfl)
    exact ⟨v, Ev.ite_neg h a, Ev.ite_neg h b, c⟩
def checked (s : ByteArray) : ByteArray × Bool :=
  if 2 ≤ s.size ∧ s.size ≤ 400 then if withSum (s.extract 0 (s.size - 2)) = s then (s.extract 0 (s.size - 2), true) else (⟨#[]⟩, false) else (⟨#[]⟩, false)
theorem toList_inj {s t : ByteArray} : s.toList = t.toList ↔ s = t := by
  constructor
  · intro h
    rw [ByteArray.toList_eq, ByteArray.toList_eq] at h
    exact str_ext h
  · intro h; rw [h]
theorem specCheck (s : ByteArray) (hs : s.size ≤ 4611686018427387904) : Ev (fun k => spec_CheckCrc.f k s) (checked s) := by
  simp only [spec_CheckCrc.f, specIn, Option.bind_some, checked]
  by_cases h : 2 ≤ s.size ∧ s.size ≤ 400
  · have hw : wrap64 ((s.size : Int) - 2) = ((s.size - 2 : Nat) : Int) := by rw [w64 (by omega) (by omega)]; omega
    have hx : (s.extract 0 (s.size - 2)).size = s.size - 2 := by simp
    simp only [hw, Int.toNat_natCast, show (2 ≤ (s.size : Int) ∧ (s.size : Int) ≤ 400) by omega, and_self, decide_true, if_true, if_pos (show (0 : Int) ≤ ((s.size - 2 : Nat) : Int) by omega), if_pos (show ((s.size - 2 : Nat) : Int) ≤ (s.size : Int) by omega)]
    rw [if_pos h]
    refine Ev.bind (specWith _ (by omega)) ?_
    simp only [toList_inj]
    by_cases e : withSum (s.extract 0 (s.size - 2)) = s
    · simp only [if_pos e]; exact Ev.now _
    · simp only [if_neg e]; exact Ev.now _
  · rw [if_neg h]
    simp only [show ¬ (2 ≤ (s.size : Int) ∧ (s.size : Int) ≤ 400) by omega, decide_false]
    simp
    exact Ev.now _
theorem implCheck (s : ByteArray) (hs : s.size ≤ 4611686018427387904) : Ev (fun k => impl_CheckCrc.f k s) (checked s) := by
  have hw : wrap64 ((s.size : Int) - 2) = (s.size : Int) - 2 := by rw [w64 (by omega) (by omega)]
  simp only [impl_CheckCrc.f, implWithin, Option.bind_some, checked, hw]
  by_cases h : 2 ≤ s.size ∧ s.size ≤ 400
  · have hw2 : (s.size : Int) - 2 = ((s.size - 2 : Nat) : Int) := by omega
    have hx : (s.extract 0 (s.size - 2)).size = s.size - 2 := by simp
    simp only [hw2, Int.toNat_natCast, show ((0 : Int) ≤ ((s.size - 2 : Nat) : Int) ∧ ((s.size - 2 : Nat) : Int) ≤ 398) by omega, and_self, decide_true, if_true, if_pos (show (0 : Int) ≤ ((s.size - 2 : Nat) : Int) by omega), if_pos (show ((s.size - 2 : Nat) : Int) ≤ (s.size : Int) by omega)]
    rw [if_pos h]
    refine Ev.bind (implWith _ (by omega)) ?_
    simp only [toList_inj]
    by_cases e : withSum (s.extract 0 (s.size - 2)) = s
    · simp only [if_pos e]; exact Ev.now _
    · simp only [if_neg e]; exact Ev.now _
  · rw [if_neg h]
    simp only [show ¬ (0 ≤ (s.size : Int) - 2 ∧ (s.size : Int) - 2 ≤ 398) by omega, decide_false]
    simp
    exact Ev.now _
theorem eqBundle_self (a0 a1 : Int) (a2 : Bool) (a3 a4 a5 a6 a7 a8 : Int) (a9 : ByteArray) : laws_eqBundle.f a0 a1 a2 a3 a4 a5 a6 a7 a8 a9 a0 a1 a2 a3 a4 a5 a6 a7 a8 a9 = some true := by
  simp [laws_eqBundle.f]
theorem readBundle_both (s : ByteArray) (hs : s.size ≤ 4611686018427387904) : ∃ r, Ev (fun k => spec_ReadBundle.f k s) r ∧ Ev (fun k => impl_ReadBundle.f k s) r := by
  obtain ⟨v, x, y, z⟩ := readItems_both (checked s).1
  have noS : Ev (fun k => spec_ReadBundle.j0 k s v.1 true) (0, 0, false, 0, 0, 0, 0, 0, 0, (⟨#[]⟩ : ByteArray), false) := Ev.step (fun k => by rw [spec_ReadBundle.j0]) (Ev.ite_pos rfl (Ev.now _))
  have noI : Ev (fun k => impl_ReadBundle.j0 k s v.1 true) (0, 0, false, 0, 0, 0, 0, 0, 0, (⟨#[]⟩ : ByteArray), false) := Ev.step (fun k => by rw [impl_ReadBundle.j0]) (Ev.ite_pos rfl (Ev.now _))
  suffices H : ∃ r, Ev (fun k => if (checked s).2 = true then (if v.2 = true then spec_ReadBundle.j0 k s v.1 ((v.1.length : Int) != 11) else spec_ReadBundle.j0 k s v.1 true) else spec_ReadBundle.j0 k s v.1 true) r ∧
      Ev (fun k => if (checked s).2 = true then (if v.2 = true then impl_ReadBundle.j0 k s v.1 ((v.1.length : Int) != 11) else impl_ReadBundle.j0 k s v.1 true) else impl_ReadBundle.j0 k s v.1 true) r by
    obtain ⟨r, a, b⟩ := H
    simp only [spec_ReadBundle.f, impl_ReadBundle.f]
    exact ⟨r, Ev.bind (specCheck s hs) (Ev.bind x a), Ev.bind (implCheck s hs) (Ev.bind y b)⟩
  by_cases h1 : (checked s).2 = true
  case neg => exact ⟨_, Ev.ite_neg h1 noS, Ev.ite_neg h1 noI⟩
  by_cases h2 : v.2 = true
  case neg => exact ⟨_, Ev.ite_pos h1 (Ev.ite_neg h2 noS), Ev.ite_pos h1 (Ev.ite_neg h2 noI)⟩
  by_cases h3 : v.1.length = 11
  case neg =>
    have e : ((v.1.length : Int) != 11) = true := by simp; omega
    rw [e]
    exact ⟨_, Ev.ite_pos h1 (Ev.ite_pos h2 noS), Ev.ite_pos h1 (Ev.ite_pos h2 noI)⟩
  have e : ((v.1.length : Int) != 11) = false := by simp; omega
  rw [e]
  have z' : v.1.length ≤ 40 ∧ Small v.1 ∧ Ev (fun k => spec_GoodItems.f k v.1) true := by
    rcases z with z | ⟨_, a, b, c, _⟩
    · rw [z] at h2; exact absurd h2 (by simp)
    · exact ⟨a, b, c⟩
  obtain ⟨z1, z2, z3⟩ := z'
  obtain ⟨b, g1, _, g3⟩ := goodItems_both v.1 (by omega) z2.at.1 z2.at.2
  obtain rfl := Ev.uniq g1 z3
  have ok9 := (g3 rfl).1 9 (by omega)
  have hb : -9223372036854775808 ≤ (rd_T63 v.1 9).f1 ∧ (rd_T63 v.1 9).f1 ≤ 9223372036854775807 := by
    have q : (((9 : Nat) : Int)) = 9 := rfl
    unfold OkAt OkItem at ok9
    rw [q] at ok9
    omega
  have c1 : 1 < (v.1.length : Int) := by omega
  have c2 : 2 < (v.1.length : Int) := by omega
  have c3 : 3 < (v.1.length : Int) := by omega
  have c4 : 4 < (v.1.length : Int) := by omega
  have c5 : 5 < (v.1.length : Int) := by omega
  have c6 : 6 < (v.1.length : Int) := by omega
  have c7 : 7 < (v.1.length : Int) := by omega
  have c8 : 8 < (v.1.length : Int) := by omega
  have c9 : 9 < (v.1.length : Int) := by omega
  have c10 : 10 < (v.1.length : Int) := by omega
  suffices H : ∃ r, Ev (fun k => spec_ReadBundle.j0 k s v.1 false) r ∧ Ev (fun k => impl_ReadBundle.j0 k s v.1 false) r by
    obtain ⟨r, a, b⟩ := H
    exact ⟨r, Ev.ite_pos h1 (Ev.ite_pos h2 a), Ev.ite_pos h1 (Ev.ite_pos h2 b)⟩
  obtain ⟨i1, i2⟩ := implBundle_val (rd_T63 v.1 1).f1 (rd_T63 v.1 2).f1 ((rd_T63 v.1 3).f1 == 1) (rd_T63 v.1 4).f1 (rd_T63 v.1 5).f1 (rd_T63 v.1 6).f1 (rd_T63 v.1 7).f1 (rd_T63 v.1 8).f1 (rd_T63 v.1 9).f1 (rd_T63 v.1 10).f2 hb
  have sg := specGood (rd_T63 v.1 1).f1 (rd_T63 v.1 2).f1 ((rd_T63 v.1 3).f1 == 1) (rd_T63 v.1 4).f1 (rd_T63 v.1 5).f1 (rd_T63 v.1 6).f1 (rd_T63 v.1 7).f1 (rd_T63 v.1 8).f1 (rd_T63 v.1 9).f1 (rd_T63 v.1 10).f2
  by_cases hg : GoodP (rd_T63 v.1 1).f1 (rd_T63 v.1 2).f1 (rd_T63 v.1 4).f1 (rd_T63 v.1 5).f1 (rd_T63 v.1 6).f1 (rd_T63 v.1 7).f1 (rd_T63 v.1 8).f1 (rd_T63 v.1 9).f1 (rd_T63 v.1 10).f2.size
  case neg =>
    rw [decide_eq_false hg] at sg
    refine ⟨(0, 0, false, 0, 0, 0, 0, 0, 0, (⟨#[]⟩ : ByteArray), false), Ev.step (fun k => by rw [spec_ReadBundle.j0]) ?_, Ev.step (fun k => by rw [impl_ReadBundle.j0]) ?_⟩
    · exact Ev.ite_neg (by decide) (Ev.ite_pos c1 (Ev.ite_pos c2 (Ev.ite_pos c3 (Ev.ite_pos c4 (Ev.ite_pos c5 (Ev.ite_pos c6 (Ev.ite_pos c7 (Ev.ite_pos c8 (Ev.ite_pos c9 (Ev.ite_pos c10 (Ev.opt_bind sg (Ev.ite_neg (by decide) (Ev.now _)))))))))))))
    · exact Ev.ite_neg (by decide) (Ev.ite_pos c1 (Ev.ite_pos c2 (Ev.ite_pos c3 (Ev.ite_pos c4 (Ev.ite_pos c5 (Ev.ite_pos c6 (Ev.ite_pos c7 (Ev.ite_pos c8 (Ev.ite_pos c9 (Ev.ite_pos c10 (Ev.bind (i2 hg) (Ev.ite_neg (by decide) (Ev.now _)))))))))))))
  rw [decide_eq_true hg] at sg
  have st := specBundleText (a2 := ((rd_T63 v.1 3).f1 == 1)) hg
  have it := i1 hg
  generalize bundleText (rd_T63 v.1 1).f1 (rd_T63 v.1 2).f1 ((rd_T63 v.1 3).f1 == 1) (rd_T63 v.1 4).f1 (rd_T63 v.1 5).f1 (rd_T63 v.1 6).f1 (rd_T63 v.1 7).f1 (rd_T63 v.1 8).f1 (rd_T63 v.1 9).f1 (rd_T63 v.1 10).f2 = q at st it
  suffices H : ∃ r, Ev (fun k => spec_ReadBundle.j0 k s v.1 false) r ∧ Ev (fun k => impl_ReadBundle.j0 k s v.1 false) r by exact H
  by_cases hq : q.toList = s.toList
  · refine ⟨((rd_T63 v.1 1).f1, (rd_T63 v.1 2).f1, (rd_T63 v.1 3).f1 == 1, (rd_T63 v.1 4).f1, (rd_T63 v.1 5).f1, (rd_T63 v.1 6).f1, (rd_T63 v.1 7).f1, (rd_T63 v.1 8).f1, (rd_T63 v.1 9).f1, (rd_T63 v.1 10).f2, true), Ev.step (fun k => by rw [spec_ReadBundle.j0]) ?_, Ev.step (fun k => by rw [impl_ReadBundle.j0]) ?_⟩
    · exact Ev.ite_neg (by decide) (Ev.ite_pos c1 (Ev.ite_pos c2 (Ev.ite_pos c3 (Ev.ite_pos c4 (Ev.ite_pos c5 (Ev.ite_pos c6 (Ev.ite_pos c7 (Ev.ite_pos c8 (Ev.ite_pos c9 (Ev.ite_pos c10 (Ev.opt_bind sg (Ev.ite_pos rfl (Ev.bind st (Ev.ite_pos hq (Ev.now _)))))))))))))))
    · exact Ev.ite_neg (by decide) (Ev.ite_pos c1 (Ev.ite_pos c2 (Ev.ite_pos c3 (Ev.ite_pos c4 (Ev.ite_pos c5 (Ev.ite_pos c6 (Ev.ite_pos c7 (Ev.ite_pos c8 (Ev.ite_pos c9 (Ev.ite_pos c10 (Ev.bind it (Ev.ite_pos rfl (Ev.ite_pos hq (Ev.now _))))))))))))))
  · refine ⟨(0, 0, false, 0, 0, 0, 0, 0, 0, (⟨#[]⟩ : ByteArray), false), Ev.step (fun k => by rw [spec_ReadBundle.j0]) ?_, Ev.step (fun k => by rw [impl_ReadBundle.j0]) ?_⟩
    · exact Ev.ite_neg (by decide) (Ev.ite_pos c1 (Ev.ite_pos c2 (Ev.ite_pos c3 (Ev.ite_pos c4 (Ev.ite_pos c5 (Ev.ite_pos c6 (Ev.ite_pos c7 (Ev.ite_pos c8 (Ev.ite_pos c9 (Ev.ite_pos c10 (Ev.opt_bind sg (Ev.ite_pos rfl (Ev.bind st (Ev.ite_neg hq (Ev.now _)))))))))))))))
    · exact Ev.ite_neg (by decide) (Ev.ite_pos c1 (Ev.ite_pos c2 (Ev.ite_pos c3 (Ev.ite_pos c4 (Ev.ite_pos c5 (Ev.ite_pos c6 (Ev.ite_pos c7 (Ev.ite_pos c8 (Ev.ite_pos c9 (Ev.ite_pos c10 (Ev.bind it (Ev.ite_pos rfl (Ev.ite_neg hq (Ev.now _))))))))))))))
theorem FnExactReadBundle : laws_FnExactReadBundle.Pure := by
  intro s hs
  refine Ev.rounds ?_
  simp only [laws_FnExactReadBundle.f]
  refine Ev.ite (fun _ => Ev.now _) fun _ => ?_
  obtain ⟨r, x, y⟩ := readBundle_both s (by omega)
  refine Ev.bind x (Ev.bind y ?_)
  simp only [eqBundle_self, Option.bind_some, if_true]
  exact Ev.ite_neg (by simp) (Ev.now _)
end Go.Proofs.Ytcpfaoloidapkaa.Pure
