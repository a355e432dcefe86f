/- What the printed program answers at this law is true, for every argument. -/
import Derived.Test.YtcpfaoloidapkaaQFnExactBundleBytesx5
import Derived.Test.YtcpfaoloidapkaaPlain
import Derived.Test.YtcpfaoloidapkaaGoalFnExactBundleBytes
set_option linter.unusedVariables false
set_option linter.unusedSimpArgs false
namespace Go.Proofs.Ytcpfaoloidapkaa.Pure
open Go.RowKit Go.Proofs.Ytcpfaoloidapkaa.QFnExactBundleBytes Go.Proofs.YtcpfaoloidapkaaW.PrintWords Go.Proofs.YtcpfaoloidapkaaW.PrintLast Go.Proofs.Ytcpfaoloidapkaa.Plain Go.Proofs.Ytcpfaoloidapkaa.GoalFnExactBundleBytes

/-- A good bundle, by its numbers and its payload's length. -/
def GoodP (f t mk no life hops off tot : Int) (n : Nat) : Prop :=
  (0 ≤ f ∧ f ≤ 40) ∧ (0 ≤ t ∧ t ≤ 40) ∧ (0 ≤ mk ∧ mk ≤ 1000000) ∧ (0 ≤ no ∧ no ≤ 1000) ∧ (1 ≤ life ∧ life ≤ 1000000) ∧ (0 ≤ hops ∧ hops ≤ 30) ∧ n ≤ 60 ∧
    ((tot = 0 ∧ off = 0) ∨ (1 ≤ tot ∧ tot ≤ 60 ∧ 0 ≤ off ∧ off + n ≤ tot ∧ 0 < n))
instance (f t mk no life hops off tot : Int) (n : Nat) : Decidable (GoodP f t mk no life hops off tot n) := by unfold GoodP; infer_instance
theorem specIn (a b c : Int) : spec_l1In.f a b c = some (decide (b ≤ a ∧ a ≤ c)) := by
  unfold spec_l1In.f
  by_cases h : b ≤ a <;> simp [h]
theorem specGood (a0 a1 : Int) (a2 : Bool) (a3 a4 a5 a6 a7 a8 : Int) (a9 : ByteArray) : spec_GoodBundle.f a0 a1 a2 a3 a4 a5 a6 a7 a8 a9 = some (decide (GoodP a0 a1 a3 a4 a5 a6 a7 a8 a9.size)) := by
  unfold spec_GoodBundle.f
  simp only [specIn, Option.bind_some, decide_eq_true_eq]
  by_cases h0 : 0 ≤ a0 ∧ a0 ≤ 40
  · rw [if_pos h0]
    by_cases h1 : 0 ≤ a1 ∧ a1 ≤ 40
    · rw [if_pos h1]
      by_cases h3 : 0 ≤ a3 ∧ a3 ≤ 1000000
      · rw [if_pos h3]
        by_cases h4 : 0 ≤ a4 ∧ a4 ≤ 1000
        · rw [if_pos h4]
          by_cases h5 : 1 ≤ a5 ∧ a5 ≤ 1000000
          · rw [if_pos h5]
            by_cases h6 : 0 ≤ a6 ∧ a6 ≤ 30
            · rw [if_pos h6]
              by_cases hn : (a9.size : Int) > 60
              · rw [if_pos hn]; exact congrArg some (decide_eq_false (by unfold GoodP; omega)).symm
              · rw [if_neg hn]
                by_cases h8 : 0 ≤ a8 ∧ a8 ≤ 60
                · rw [if_pos h8]
                  by_cases h7 : 0 ≤ a7 ∧ a7 ≤ a8
                  · rw [if_pos h7]
                    by_cases hz : a8 = 0
                    · rw [if_pos hz]; exact congrArg some (decide_eq_true (by unfold GoodP; omega)).symm
                    · rw [if_neg hz]
                      by_cases hp : (a9.size : Int) > 0
                      · rw [if_pos hp, w64 (by omega) (by omega)]
                        refine congrArg some (decide_eq_decide.mpr ?_)
                        unfold GoodP; omega
                      · rw [if_neg hp]; exact congrArg some (decide_eq_false (by unfold GoodP; omega)).symm
                  · rw [if_neg h7]; exact congrArg some (decide_eq_false (by unfold GoodP; omega)).symm
                · rw [if_neg h8]; exact congrArg some (decide_eq_false (by unfold GoodP; omega)).symm
            · rw [if_neg h6]; exact congrArg some (decide_eq_false (by unfold GoodP; omega)).symm
          · rw [if_neg h5]; exact congrArg some (decide_eq_false (by unfold GoodP; omega)).symm
        · rw [if_neg h4]; exact congrArg some (decide_eq_false (by unfold GoodP; omega)).symm
      · rw [if_neg h3]; exact congrArg some (decide_eq_false (by unfold GoodP; omega)).symm
    · rw [if_neg h1]; exact congrArg some (decide_eq_false (by unfold GoodP; omega)).symm
  · rw [if_neg h0]; exact congrArg some (decide_eq_false (by unfold GoodP; omega)).symm
theorem implWithin (a b c : Int) : impl_within.f a b c = some (decide (b ≤ a ∧ a ≤ c)) := by
  unfold impl_within.f
  by_cases h : b ≤ a <;> simp [h]
theorem implGood_no (a0 a1 : Int) (a2 : Bool) (a3 a4 a5 a6 a7 a8 : Int) (a9 : ByteArray) : Ev (fun k => impl_GoodBundle.j0 k true a0 a1 a2 a3 a4 a5 a6 a7 a8 a9) false := by
  refine Ev.step (fun k => by rw [impl_GoodBundle.j0]) ?_
  exact Ev.ite_pos rfl (Ev.now _)
theorem isEmpty_size (s : ByteArray) : s.toList.isEmpty = decide (s.size = 0) := by
  rw [ByteArray.toList_eq, ← size_data]
  cases s.data.toList <;> simp
theorem implGood_end (a0 a1 : Int) (a2 : Bool) (a3 a4 a5 a6 a7 a8 : Int) (a9 : ByteArray) (h8 : -9223372036854775808 ≤ a8 ∧ a8 ≤ 9223372036854775807) (h : a9.size ≤ 60) :
    Ev (fun k => impl_GoodBundle.j0 k (decide ((a9.size : Int) > 60)) a0 a1 a2 a3 a4 a5 a6 a7 a8 a9) (decide ((a8 = 0 ∧ a7 = 0) ∨ (1 ≤ a8 ∧ a8 ≤ 60 ∧ 0 ≤ a7 ∧ a7 + a9.size ≤ a8 ∧ 0 < a9.size))) := by
  rw [decide_eq_false (show ¬ (a9.size : Int) > 60 by omega)]
  refine Ev.step (fun k => by rw [impl_GoodBundle.j0]) ?_
  refine Ev.ite_neg (by simp) ?_
  by_cases hz : a8 = 0
  · refine Ev.ite_pos hz (Ev.now' ?_)
    rw [show (a7 == 0) = decide (a7 = 0) from rfl]
    exact decide_eq_decide.mpr (by omega)
  · refine Ev.ite_neg hz ?_
    rw [implWithin, implWithin, isEmpty_size]
    simp only [Option.bind_some, decide_eq_true_eq]
    by_cases h1 : 1 ≤ a8 ∧ a8 ≤ 60
    · refine Ev.ite_pos h1 ?_
      rw [w64 (by omega) (by omega)]
      by_cases h2 : 0 ≤ a7 ∧ a7 ≤ a8 - (a9.size : Int)
      · refine Ev.ite_pos h2 (Ev.now' ?_)
        by_cases h3 : a9.size = 0
        · rw [decide_eq_true h3, decide_eq_false (show ¬ _ by omega)]; rfl
        · rw [decide_eq_false h3, decide_eq_true (show _ by omega)]; rfl
      · refine Ev.ite_neg h2 (Ev.now' (decide_eq_false (by omega)).symm)
    · refine Ev.ite_neg h1 (Ev.now' (decide_eq_false (by omega)).symm)
theorem implGood (a0 a1 : Int) (a2 : Bool) (a3 a4 a5 a6 a7 a8 : Int) (a9 : ByteArray) (h8 : -9223372036854775808 ≤ a8 ∧ a8 ≤ 9223372036854775807) :
    Ev (fun k => impl_GoodBundle.f k a0 a1 a2 a3 a4 a5 a6 a7 a8 a9) (decide (GoodP a0 a1 a3 a4 a5 a6 a7 a8 a9.size)) := by
  have no : ¬ GoodP a0 a1 a3 a4 a5 a6 a7 a8 a9.size → Ev (fun k => impl_GoodBundle.j0 k true a0 a1 a2 a3 a4 a5 a6 a7 a8 a9) (decide (GoodP a0 a1 a3 a4 a5 a6 a7 a8 a9.size)) := fun h => by
    rw [decide_eq_false h]; exact implGood_no ..
  simp only [impl_GoodBundle.f, implWithin, Option.bind_some, decide_eq_true_eq]
  refine Ev.ite (fun h0 => ?_) fun h => no (by unfold GoodP; omega)
  refine Ev.ite (fun h1 => ?_) fun h => no (by unfold GoodP; omega)
  refine Ev.ite (fun h3 => ?_) fun h => no (by unfold GoodP; omega)
  refine Ev.ite (fun h4 => ?_) fun h => no (by unfold GoodP; omega)
  refine Ev.ite (fun h5 => ?_) fun h => no (by unfold GoodP; omega)
  refine Ev.ite (fun h6 => ?_) fun h => no (by unfold GoodP; omega)
  by_cases hn : a9.size ≤ 60
  · have e : decide (GoodP a0 a1 a3 a4 a5 a6 a7 a8 a9.size) = decide ((a8 = 0 ∧ a7 = 0) ∨ (1 ≤ a8 ∧ a8 ≤ 60 ∧ 0 ≤ a7 ∧ a7 + a9.size ≤ a8 ∧ 0 < a9.size)) :=
      decide_eq_decide.mpr (by unfold GoodP; omega)
    rw [e]
    exact implGood_end a0 a1 a2 a3 a4 a5 a6 a7 a8 a9 h8 hn
  · rw [decide_eq_true (show (a9.size : Int) > 60 by omega)]
    exact no (by unfold GoodP; omega)
/-- An item's text, from a place on, of signs that may be written. -/
def SignsFrom (s : ByteArray) (i : Nat) : Prop := ∀ j : Nat, i ≤ j → j < s.size → 32 ≤ bt s (j : Int) ∧ bt s (j : Int) ≤ 126
theorem SignsFrom.step {s : ByteArray} {i : Nat} (h : i < s.size) : SignsFrom s i ↔ (32 ≤ bt s (i : Int) ∧ bt s (i : Int) ≤ 126) ∧ SignsFrom s (i + 1) := by
  constructor
  · exact fun H => ⟨H i (by omega) h, fun j h1 h2 => H j (by omega) h2⟩
  · rintro ⟨a, b⟩ j h1 h2
    by_cases e : j = i
    · subst e; exact a
    · exact b j (by omega) h2
/-- A single item is right; a list's number of values is at most 40. -/
def OkItem (f0 f1 : Int) (f2 : ByteArray) (f3 : Int) : Prop :=
  (f0 = 1 ∧ 0 ≤ f1 ∧ f1 ≤ 1000000000 ∧ f2.size = 0 ∧ f3 = 0) ∨ (f0 = 2 ∧ f2.size ≤ 60 ∧ f1 = 0 ∧ f3 = 0) ∨ (f0 = 3 ∧ SignsFrom f2 0 ∧ f2.size ≤ 60 ∧ f1 = 0 ∧ f3 = 0) ∨ (f0 = 4 ∧ 0 ≤ f3 ∧ f3 ≤ 40 ∧ f1 = 0 ∧ f2.size = 0)
theorem toList_nil_iff (s : ByteArray) : s.toList = ([] : List UInt8) ↔ s.size = 0 := by
  rw [ByteArray.toList_eq, ← size_data, List.length_eq_zero_iff]
/-- An item of a list is right. -/
def OkAt (l : List S63) (i : Nat) : Prop := OkItem (rd_T63 l (i : Int)).f0 (rd_T63 l (i : Int)).f1 (rd_T63 l (i : Int)).f2 (rd_T63 l (i : Int)).f3
/-- The bytes of a head. -/
def headNums (m n : Int) : List Int :=
  if n < 24 then [(32 * m + n) % 256] else if n < 256 then [(32 * m + 24) % 256, n % 256] else if n < 65536 then [(32 * m + 25) % 256, n / 256 % 256, n % 256]
  else [(32 * m + 26) % 256, n / 16777216 % 256, n / 65536 % 256, n / 256 % 256, n % 256]
def headText (m n : Int) : ByteArray := strOfNums (headNums m n)
theorem headNums_len (m n : Int) : 1 ≤ (headNums m n).length ∧ (headNums m n).length ≤ 5 := by
  unfold headNums
  split
  · simp
  · split
    · simp
    · split <;> simp
theorem implHead (m n : Int) (h0 : 0 ≤ m) (h1 : m ≤ 7) (h2 : 0 ≤ n) (h3 : n ≤ 4294967295) : impl_head.f m n = some (headText m n) := by
  have e : wrap64 (32 * m) = 32 * m := w64 (by omega) (by omega)
  unfold impl_head.f headText headNums
  rw [e]
  by_cases a : n < 24
  · rw [if_pos a, if_pos a]; congr 2; simp
  · rw [if_neg a, if_neg a]
    by_cases b : n < 256
    · rw [if_pos b, if_pos b]; congr 2; simp
    · rw [if_neg b, if_neg b]
      by_cases c : n < 65536
      · rw [if_pos c, if_pos c]; congr 2; simp
      · rw [if_neg c, if_neg c]; congr 2; simp
theorem specNumber1 (n : Int) : Ev (fun k => spec_l2Number.f k n 1) (strOfNums [n % 256]) := by
  have w0 : wrap64 (1 - 1) = 0 := by unfold wrap64; omega
  have w1 : wrap64 (0 - 1) = -1 := by unfold wrap64; omega
  simp only [spec_l2Number.f, if_pos (show (0 : Int) ≤ 1 by decide), if_pos (show (1 : Int).toNat ≤ 281474976710656 by decide), w0]
  refine Ev.step (fun k => by rw [spec_l2Number.l0]) ?_
  refine Ev.ite_pos (by decide) (Ev.ite_pos (by decide) (Ev.ite_pos (by decide) ?_))
  rw [w1]
  refine Ev.step (fun k => by rw [spec_l2Number.l0]) ?_
  refine Ev.ite_neg (by decide) ?_
  exact Ev.now' rfl
theorem specNumber2 (n : Int) : Ev (fun k => spec_l2Number.f k n 2) (strOfNums [n / 256 % 256, n % 256]) := by
  have w0 : wrap64 (2 - 1) = 1 := by unfold wrap64; omega
  have w1 : wrap64 (1 - 1) = 0 := by unfold wrap64; omega
  have w2 : wrap64 (0 - 1) = -1 := by unfold wrap64; omega
  simp only [spec_l2Number.f, if_pos (show (0 : Int) ≤ 2 by decide), if_pos (show (2 : Int).toNat ≤ 281474976710656 by decide), w0]
  refine Ev.step (fun k => by rw [spec_l2Number.l0]) ?_
  refine Ev.ite_pos (by decide) (Ev.ite_pos (by decide) (Ev.ite_pos (by decide) ?_))
  rw [w1]
  refine Ev.step (fun k => by rw [spec_l2Number.l0]) ?_
  refine Ev.ite_pos (by decide) (Ev.ite_pos (by decide) (Ev.ite_pos (by simp [List.replicate]) ?_))
  rw [w2]
  refine Ev.step (fun k => by rw [spec_l2Number.l0]) ?_
  refine Ev.ite_neg (by decide) ?_
  exact Ev.now' rfl
theorem specNumber4 (n : Int) (h : 0 ≤ n) : Ev (fun k => spec_l2Number.f k n 4) (strOfNums [n / 16777216 % 256, n / 65536 % 256, n / 256 % 256, n % 256]) := by
  have w0 : wrap64 (4 - 1) = 3 := by unfold wrap64; omega
  have w1 : wrap64 (3 - 1) = 2 := by unfold wrap64; omega
  have w2 : wrap64 (2 - 1) = 1 := by unfold wrap64; omega
  have w3 : wrap64 (1 - 1) = 0 := by unfold wrap64; omega
  have w4 : wrap64 (0 - 1) = -1 := by unfold wrap64; omega
  have e1 : n / 256 / 256 = n / 65536 := by omega
  have e2 : n / 65536 / 256 = n / 16777216 := by omega
  simp only [spec_l2Number.f, if_pos (show (0 : Int) ≤ 4 by decide), if_pos (show (4 : Int).toNat ≤ 281474976710656 by decide), w0]
  refine Ev.step (fun k => by rw [spec_l2Number.l0]) ?_
  refine Ev.ite_pos (by decide) (Ev.ite_pos (by decide) (Ev.ite_pos (by decide) ?_))
  rw [w1]
  refine Ev.step (fun k => by rw [spec_l2Number.l0]) ?_
  refine Ev.ite_pos (by decide) (Ev.ite_pos (by decide) (Ev.ite_pos (by simp [List.replicate]) ?_))
  rw [w2]
  refine Ev.step (fun k => by rw [spec_l2Number.l0]) ?_
  refine Ev.ite_pos (by decide) (Ev.ite_pos (by decide) (Ev.ite_pos (by simp [List.replicate]) ?_))
  rw [w3]
  refine Ev.step (fun k => by rw [spec_l2Number.l0]) ?_
  refine Ev.ite_pos (by decide) (Ev.ite_pos (by decide) (Ev.ite_pos (by simp [List.replicate]) ?_))
  rw [w4]
  refine Ev.step (fun k => by rw [spec_l2Number.l0]) ?_
  refine Ev.ite_neg (by decide) ?_
  rw [e1, e2]
  exact Ev.now' rfl
theorem specHead (m n : Int) (h0 : 0 ≤ m) (h1 : m ≤ 7) (h2 : 0 ≤ n) (h3 : n ≤ 4294967295) : Ev (fun k => spec_l2Head.f k m n) (headText m n) := by
  have e : wrap64 (32 * m) = 32 * m := w64 (by omega) (by omega)
  unfold headText headNums
  simp only [spec_l2Head.f, e]
  by_cases a : n < 24
  · simp only [if_pos a, w64 (show -9223372036854775808 ≤ 32 * m + n by omega) (show 32 * m + n ≤ 9223372036854775807 by omega)]
    exact Ev.bind (specNumber1 _) (Ev.now _)
  · simp only [if_neg a]
    by_cases b : n < 256
    · simp only [if_pos b, w64 (show -9223372036854775808 ≤ 32 * m + 24 by omega) (show 32 * m + 24 ≤ 9223372036854775807 by omega)]
      refine Ev.bind (specNumber1 _) (Ev.bind (specNumber1 _) ?_)
      simp only [strOfNums_size]
      refine Ev.ite_pos (by simp) ?_
      exact Ev.now' (by rw [← strOfNums_append]; rfl)
    · simp only [if_neg b]
      by_cases c : n < 65536
      · simp only [if_pos c, w64 (show -9223372036854775808 ≤ 32 * m + 25 by omega) (show 32 * m + 25 ≤ 9223372036854775807 by omega)]
        refine Ev.bind (specNumber1 _) (Ev.bind (specNumber2 _) ?_)
        simp only [strOfNums_size]
        refine Ev.ite_pos (by simp) ?_
        exact Ev.now' (by rw [← strOfNums_append]; rfl)
      · simp only [if_neg c, w64 (show -9223372036854775808 ≤ 32 * m + 26 by omega) (show 32 * m + 26 ≤ 9223372036854775807 by omega)]
        refine Ev.bind (specNumber1 _) (Ev.bind (specNumber4 _ (by omega)) ?_)
        simp only [strOfNums_size]
        refine Ev.ite_pos (by simp) ?_
        exact Ev.now' (by rw [← strOfNums_append]; rfl)
/-- An item's bytes. -/
def itemText (f0 f1 : Int) (f2 : ByteArray) (f3 : Int) : ByteArray :=
  if f0 = 1 then headText 0 f1 else if f0 = 2 then headText 2 (f2.size : Int) ++ f2 else if f0 = 3 then headText 3 (f2.size : Int) ++ f2 else headText 4 f3
def itemsText : List S63 → ByteArray
  | [] => ⟨#[]⟩
  | x :: l => itemText x.f0 x.f1 x.f2 x.f3 ++ itemsText l
theorem headText_size (m n : Int) : 1 ≤ (headText m n).size ∧ (headText m n).size ≤ 5 := by
  have := headNums_len m n
  unfold headText
  rw [strOfNums_size]
  exact this
theorem itemText_size {f0 f1 : Int} {f2 : ByteArray} {f3 : Int} (h : OkItem f0 f1 f2 f3) : (itemText f0 f1 f2 f3).size ≤ 65 := by
  have := headText_size 0 f1
  have := headText_size 2 (f2.size : Int)
  have := headText_size 3 (f2.size : Int)
  have := headText_size 4 f3
  unfold OkItem at h
  unfold itemText
  split
  · omega
  · split
    · rw [ByteArray.size_append]; omega
    · split
      · rw [ByteArray.size_append]; omega
      · omega
theorem append_empty (s : ByteArray) : s ++ (⟨#[]⟩ : ByteArray) = s := by
  apply str_ext
  simp
theorem append_assoc' (a b c : ByteArray) : a ++ b ++ c = a ++ (b ++ c) := by
  apply str_ext
  simp
theorem rdT_eq (l : List S63) (i : Nat) (h : i < l.length) : rd_T63 l (i : Int) = l[i] := by
  simp [rd_T63, List.getD_eq_getElem?_getD, List.getElem?_eq_getElem h]
theorem bytes_go (l : List S63) (hl : l.length ≤ 1048576) (ok : ∀ i : Nat, i < l.length → OkAt l i) (d : Nat) : ∀ (i : Nat) (t : ByteArray), i ≤ l.length → l.length - i = d → t.size ≤ 65 * i →
    Ev (fun k => spec_l2Bytes.l0 k t l (l.length : Int) (i : Int)) (t ++ itemsText (l.drop i)) ∧ Ev (fun k => impl_itemsBytes.l0 k t l (l.length : Int) (i : Int)) (t ++ itemsText (l.drop i)) := by
  induction d with
  | zero =>
    intro i t h0 hd ht
    rw [List.drop_eq_nil_of_le (by omega)]
    simp only [itemsText, append_empty]
    constructor
    · refine Ev.step (fun k => by rw [spec_l2Bytes.l0]) ?_
      exact Ev.ite_neg (by omega) (Ev.now _)
    · refine Ev.step (fun k => by rw [impl_itemsBytes.l0]) ?_
      exact Ev.ite_neg (by omega) (Ev.now _)
  | succ d ih =>
    intro i t h0 hd ht
    have hi : i < l.length := by omega
    have hok := ok i hi
    have hsz := itemText_size hok
    have hw : wrap64 ((i : Int) + 1) = ((i + 1 : Nat) : Int) := by rw [w64 (by omega) (by omega)]; omega
    have hp : (i : Int) < (l.length : Int) := by omega
    have hz : (0 : Int) ≤ (i : Int) := by omega
    have hx := rdT_eq l i hi
    obtain ⟨a, b⟩ := ih (i + 1) (t ++ itemText l[i].f0 l[i].f1 l[i].f2 l[i].f3) (by omega) (by omega) (by rw [ByteArray.size_append]; rw [hx] at hsz; omega)
    rw [List.drop_eq_getElem_cons hi]
    simp only [itemsText, ← append_assoc']
    unfold OkAt at hok
    have s2 := headText_size 2 (l[i].f2.size : Int)
    have s3 := headText_size 3 (l[i].f2.size : Int)
    have s1 := headText_size 0 l[i].f1
    have s4 := headText_size 4 l[i].f3
    constructor
    · refine Ev.step (fun k => by rw [spec_l2Bytes.l0]) ?_
      refine Ev.ite_pos hp (Ev.ite_pos hz (Ev.ite_pos hp ?_))
      rw [hx] at hok ⊢
      revert hok a
      generalize l[i] = x at s1 s2 s3 s4
      intro hok a
      rw [hw]
      unfold OkItem at hok
      unfold itemText at a ⊢
      by_cases h1 : x.f0 = 1
      · rw [if_pos h1] at a ⊢
        exact Ev.ite_pos h1 (Ev.bind (specHead 0 x.f1 (by omega) (by omega) (by omega) (by omega)) (Ev.ite_pos (by omega) a))
      · rw [if_neg h1] at a ⊢
        refine Ev.ite_neg h1 ?_
        by_cases h2 : x.f0 = 2
        · rw [if_pos h2] at a ⊢
          exact Ev.ite_pos h2 (Ev.bind (specHead 2 (x.f2.size : Int) (by omega) (by omega) (by omega) (by omega)) (Ev.ite_pos (by omega) (Ev.ite_pos (by omega) a)))
        · rw [if_neg h2] at a ⊢
          refine Ev.ite_neg h2 ?_
          by_cases h3 : x.f0 = 3
          · rw [if_pos h3] at a ⊢
            exact Ev.ite_pos h3 (Ev.bind (specHead 3 (x.f2.size : Int) (by omega) (by omega) (by omega) (by omega)) (Ev.ite_pos (by omega) (Ev.ite_pos (by omega) a)))
          · rw [if_neg h3] at a ⊢
            exact Ev.ite_neg h3 (Ev.bind (specHead 4 x.f3 (by omega) (by omega) (by omega) (by omega)) (Ev.ite_pos (by omega) a))
    · refine Ev.step (fun k => by rw [impl_itemsBytes.l0]) ?_
      refine Ev.ite_pos hp (Ev.ite_pos hz (Ev.ite_pos hp ?_))
      rw [hx] at hok ⊢
      revert hok b
      generalize l[i] = x at s1 s2 s3 s4
      intro hok b
      rw [hw]
      unfold OkItem at hok
      unfold itemText at b ⊢
      by_cases h1 : x.f0 = 1
      · rw [if_pos h1] at b ⊢
        exact Ev.ite_pos h1 (Ev.opt_bind (implHead 0 x.f1 (by omega) (by omega) (by omega) (by omega)) (Ev.ite_pos (by omega) b))
      · rw [if_neg h1] at b ⊢
        refine Ev.ite_neg h1 ?_
        by_cases h2 : x.f0 = 2
        · rw [if_pos h2] at b ⊢
          exact Ev.ite_pos h2 (Ev.opt_bind (implHead 2 (x.f2.size : Int) (by omega) (by omega) (by omega) (by omega)) (Ev.ite_pos (by omega) (Ev.ite_pos (by omega) b)))
        · rw [if_neg h2] at b ⊢
          refine Ev.ite_neg h2 ?_
          by_cases h3 : x.f0 = 3
          · rw [if_pos h3] at b ⊢
            exact Ev.ite_pos h3 (Ev.opt_bind (implHead 3 (x.f2.size : Int) (by omega) (by omega) (by omega) (by omega)) (Ev.ite_pos (by omega) (Ev.ite_pos (by omega) b)))
          · rw [if_neg h3] at b ⊢
            exact Ev.ite_neg h3 (Ev.ite_pos (by omega) (Ev.opt_bind (implHead 4 x.f3 (by omega) (by omega) (by omega) (by omega)) (Ev.ite_pos (by omega) b)))
theorem empty_append (s : ByteArray) : (⟨#[]⟩ : ByteArray) ++ s = s := by
  apply str_ext
  simp
theorem bytes_both (l : List S63) (hl : l.length ≤ 1048576) (ok : ∀ i : Nat, i < l.length → OkAt l i) : Ev (fun k => spec_l2Bytes.f k l) (itemsText l) ∧ Ev (fun k => impl_itemsBytes.f k l) (itemsText l) := by
  have := bytes_go l hl ok l.length 0 (⟨#[]⟩ : ByteArray) (by omega) (by omega) (by decide)
  simp only [List.drop_zero, empty_append] at this
  simp only [spec_l2Bytes.f, impl_itemsBytes.f]
  exact this
theorem crc_go (n : Nat) : ∀ (x : Nat) (i : Int), x < 65536 → 0 ≤ i → i ≤ 8 → 8 - i = n → Ev (fun k => spec_l1Crc.l0 k (x : Int) i) (crcRounds n x : Int) ∧ Ev (fun k => impl_crcAdd.l0 k (x : Int) i) (crcRounds n x : Int) := by
  induction n with
  | zero =>
    intro x i hx h0 h1 hn
    constructor
    · refine Ev.step (fun k => by rw [spec_l1Crc.l0]) ?_
      simp only [if_neg (show ¬ i < 8 by omega), crcRounds]
      exact Ev.now _
    · refine Ev.step (fun k => by rw [impl_crcAdd.l0]) ?_
      simp only [if_neg (show ¬ i < 8 by omega), crcRounds]
      exact Ev.now _
  | succ n ih =>
    intro x i hx h0 h1 hn
    have hw : wrap64 (i + 1) = i + 1 := w64 (by omega) (by omega)
    have hw2 : wrap64 ((x : Int) * 2) = ((2 * x : Nat) : Int) := by rw [w64 (by omega) (by omega)]; omega
    obtain ⟨a, b⟩ := ih (crcRound x) (i + 1) (crcRound_lt hx) (by omega) (by omega) (by omega)
    have e : (if ((2 * x : Nat) : Int) > 65535 then Go.bits .xor .i64 ((2 * x : Nat) : Int) 69665 else ((2 * x : Nat) : Int)) = (crcRound x : Int) := by
      unfold crcRound
      by_cases h : 65535 < 2 * x
      · rw [if_pos (by omega), if_pos h]
        exact xor_i64 (2 * x) 69665 (by omega) (by omega)
      · rw [if_neg (by omega), if_neg h]
    constructor
    · refine Ev.step (fun k => by rw [spec_l1Crc.l0]) ?_
      simp only [if_pos (show i < 8 by omega), hw, hw2]
      by_cases h : ((2 * x : Nat) : Int) > 65535
      · simp only [if_pos h] at e ⊢
        rw [e]; simpa only [crcRounds] using a
      · simp only [if_neg h] at e ⊢
        rw [e]; simpa only [crcRounds] using a
    · refine Ev.step (fun k => by rw [impl_crcAdd.l0]) ?_
      simp only [if_pos (show i < 8 by omega), hw, hw2]
      by_cases h : ((2 * x : Nat) : Int) > 65535
      · simp only [if_pos h] at e ⊢
        rw [e]; simpa only [crcRounds] using b
      · simp only [if_neg h] at e ⊢
        rw [e]; simpa only [crcRounds] using b
theorem crc_one (x b : Nat) (hx : x < 65536) (hb : b < 256) : Ev (fun k => spec_l1Crc.f k (x : Int) (b : Int)) (crcByte x b : Int) ∧ Ev (fun k => impl_crcAdd.f k (x : Int) (b : Int)) (crcByte x b : Int) := by
  have := crc_go 8 (x ^^^ (b * 256)) 0 (xor_byte_lt hx hb) (by omega) (by omega) (by omega)
  simp only [spec_l1Crc.f, impl_crcAdd.f, w64 (show -9223372036854775808 ≤ (b : Int) by omega) (show (b : Int) ≤ 9223372036854775807 by omega)]
  have e1 : wrap64 ((b : Int) * 256) = ((b * 256 : Nat) : Int) := by rw [w64 (by omega) (by omega)]; omega
  have e2 : wrap64 (256 * (b : Int)) = ((b * 256 : Nat) : Int) := by rw [w64 (by omega) (by omega)]; omega
  rw [e1, e2, xor_i64 x (b * 256) (by omega) (by omega)]
  exact this
theorem crcOf_go (s : ByteArray) (hs : s.size ≤ 4611686018427387904) (n : Nat) : ∀ (x i : Nat), x < 65536 → i ≤ s.size → s.size - i = n →
    Ev (fun k => spec_l1CrcOf.l0 k s (x : Int) (i : Int)) (crcOver x (s.data.toList.drop i) : Int) ∧ Ev (fun k => impl_crcOf.l0 k s (x : Int) (s.size : Int) (i : Int)) (crcOver x (s.data.toList.drop i) : Int) := by
  induction n with
  | zero =>
    intro x i hx h0 hn
    have e : s.data.toList.drop i = [] := List.drop_eq_nil_of_le (by rw [size_data]; omega)
    rw [e]
    constructor
    · refine Ev.step (fun k => by rw [spec_l1CrcOf.l0]) ?_
      simp only [if_neg (show ¬ (i : Int) < (s.size : Int) by omega)]
      exact Ev.now _
    · refine Ev.step (fun k => by rw [impl_crcOf.l0]) ?_
      simp only [if_neg (show ¬ (i : Int) < (s.size : Int) by omega)]
      exact Ev.now _
  | succ n ih =>
    intro x i hx h0 hn
    have hi : i < s.size := by omega
    have hw : wrap64 ((i : Int) + 1) = ((i + 1 : Nat) : Int) := by rw [w64 (by omega) (by omega)]; omega
    have hb : bt s (i : Int) = (s[i].toNat : Int) := by simp [bt, hi]
    have e : s.data.toList.drop i = s[i] :: s.data.toList.drop (i + 1) := List.drop_eq_getElem_cons (by rw [size_data]; exact hi)
    obtain ⟨p, q⟩ := crc_one x s[i].toNat hx s[i].toNat_lt
    obtain ⟨a, b⟩ := ih (crcByte x s[i].toNat) (i + 1) (crcByte_lt hx s[i].toNat_lt) (by omega) (by omega)
    rw [e]
    simp only [crcOver, List.foldl_cons] at a b ⊢
    constructor
    · refine Ev.step (fun k => by rw [spec_l1CrcOf.l0]) ?_
      simp only [if_pos (show (i : Int) < (s.size : Int) by omega), if_pos (show (0 : Int) ≤ (i : Int) by omega), hw, hb]
      exact Ev.bind p a
    · refine Ev.step (fun k => by rw [impl_crcOf.l0]) ?_
      simp only [if_pos (show (i : Int) < (s.size : Int) by omega), if_pos (show (0 : Int) ≤ (i : Int) by omega), hw, hb]
      exact Ev.bind q b
/-- The sum of a text. -/
def crcText (s : ByteArray) : Nat := crcOver 65535 s.data.toList
theorem crcText_lt (s : ByteArray) : crcText s < 65536 := crcOver_lt _ (by omega)
theorem crcOf_both (s : ByteArray) (hs : s.size ≤ 4611686018427387904) : Ev (fun k => spec_l1CrcOf.f k s) (crcText s : Int) ∧ Ev (fun k => impl_crcOf.f k s) (crcText s : Int) := by
  simp only [spec_l1CrcOf.f, impl_crcOf.f]
  exact crcOf_go s hs s.size 65535 0 (by omega) (by omega) (by omega)
/-- A text with its sum behind it. -/
def withSum (s : ByteArray) : ByteArray := s ++ strOfNums [(crcText s : Int) / 256 % 256, (crcText s : Int) % 256]
theorem specWith (s : ByteArray) (hs : s.size ≤ 4611686018427387904) : Ev (fun k => spec_l1With.f k s) (withSum s) := by
  simp only [spec_l1With.f]
  refine Ev.bind (crcOf_both s hs).1 ?_
  refine Ev.some_bind ?_
  simp only [strOfNums_size]
  refine Ev.ite_pos (by simp; omega) ?_
  exact Ev.now _
theorem implWith (s : ByteArray) (hs : s.size ≤ 398) : Ev (fun k => impl_WithCrc.f k s) (withSum s, true) := by
  simp only [impl_WithCrc.f]
  refine Ev.ite_neg (by omega) ?_
  refine Ev.bind (crcOf_both s (by omega)).2 ?_
  have e : ([wrap64 (Int.tdiv (crcText s : Int) 256) % 256, Int.tmod (crcText s : Int) 256 % 256] : List Int) = [(crcText s : Int) / 256 % 256, (crcText s : Int) % 256] := by
    have h := crcText_lt s
    rw [Int.tdiv_eq_ediv_of_nonneg (by omega), Int.tmod_eq_emod_of_nonneg (by omega), w64 (by omega) (by omega), Int.emod_emod]
  rw [e]
  refine Ev.some_bind ?_
  simp only [strOfNums_size]
  refine Ev.ite_pos (by simp; omega) ?_
  exact Ev.now _
/-- A bundle's numbers, and its items. -/
def bundleNums (a0 a1 : Int) (a2 : Bool) (a3 a4 a5 a6 a7 a8 : Int) : List Int := [a0, a1, if a2 = true then 1 else 0, a3, a4, a5, a6, a7, a8]
def bundleItems (a0 a1 : Int) (a2 : Bool) (a3 a4 a5 a6 a7 a8 : Int) (a9 : ByteArray) : List S63 :=
  (⟨4, 0, (⟨#[]⟩ : ByteArray), 10⟩ : S63) :: ((bundleNums a0 a1 a2 a3 a4 a5 a6 a7 a8).map (fun n => (⟨1, n, (⟨#[]⟩ : ByteArray), 0⟩ : S63)) ++ [(⟨2, 0, a9, 0⟩ : S63)])
theorem l3Items_go (a0 a1 : Int) (a2 : Bool) (a3 a4 a5 a6 a7 a8 : Int) (a9 : ByteArray) (ns : List Int) (hn : ns.length ≤ 9) (d : Nat) : ∀ (x : List S63) (i : Nat), i ≤ ns.length → ns.length - i = d → x.length ≤ 1 + i →
    Ev (fun k => spec_l3Items.l0 k x ns (ns.length : Int) (i : Int) a0 a1 a2 a3 a4 a5 a6 a7 a8 a9) (x ++ ((ns.drop i).map (fun n => (⟨1, n, (⟨#[]⟩ : ByteArray), 0⟩ : S63)) ++ [(⟨2, 0, a9, 0⟩ : S63)])) := by
  induction d with
  | zero =>
    intro x i h0 hd hx
    rw [List.drop_eq_nil_of_le (by omega)]
    refine Ev.step (fun k => by rw [spec_l3Items.l0]) ?_
    exact Ev.ite_neg (by omega) (Ev.ite_pos (by omega) (Ev.now _))
  | succ d ih =>
    intro x i h0 hd hx
    have hi : i < ns.length := by omega
    have hw : wrap64 ((i : Int) + 1) = ((i + 1 : Nat) : Int) := by rw [w64 (by omega) (by omega)]; omega
    have a := ih (x ++ [(⟨1, ns[i], (⟨#[]⟩ : ByteArray), 0⟩ : S63)]) (i + 1) (by omega) (by omega) (by simp; omega)
    rw [List.drop_eq_getElem_cons hi]
    refine Ev.step (fun k => by rw [spec_l3Items.l0]) ?_
    refine Ev.ite_pos (by omega) (Ev.ite_pos (by omega) (Ev.ite_pos (by omega) (Ev.ite_pos (by omega) ?_)))
    rw [hw, rd_eq ns i hi]
    rw [List.append_assoc, List.singleton_append] at a
    rw [List.map_cons, List.cons_append]
    exact a
theorem specItems (a0 a1 : Int) (a2 : Bool) (a3 a4 a5 a6 a7 a8 : Int) (a9 : ByteArray) : Ev (fun k => spec_l3Items.f k a0 a1 a2 a3 a4 a5 a6 a7 a8 a9) (bundleItems a0 a1 a2 a3 a4 a5 a6 a7 a8 a9) := by
  have go : ∀ g : Int, g = (if a2 = true then 1 else 0) → Ev (fun k => spec_l3Items.j0 k g a0 a1 a2 a3 a4 a5 a6 a7 a8 a9) (bundleItems a0 a1 a2 a3 a4 a5 a6 a7 a8 a9) := by
    intro g hg
    refine Ev.step (fun k => by rw [spec_l3Items.j0]) ?_
    refine Ev.some_bind ?_
    have := l3Items_go a0 a1 a2 a3 a4 a5 a6 a7 a8 a9 (bundleNums a0 a1 a2 a3 a4 a5 a6 a7 a8) (by simp [bundleNums]) 9 [(⟨4, 0, (⟨#[]⟩ : ByteArray), 10⟩ : S63)] 0 (by omega) (by simp [bundleNums]) (by simp)
    rw [hg]
    exact this
  simp only [spec_l3Items.f]
  refine Ev.ite (fun h => go 1 (by rw [if_pos h])) fun h => go 0 (by rw [if_neg h])
/-- A good bundle's items are right. -/
theorem bundleItems_ok {a0 a1 : Int} {a2 : Bool} {a3 a4 a5 a6 a7 a8 : Int} {a9 : ByteArray} (h : GoodP a0 a1 a3 a4 a5 a6 a7 a8 a9.size) : ∀ i : Nat, i < (bundleItems a0 a1 a2 a3 a4 a5 a6 a7 a8 a9).length → OkAt (bundleItems a0 a1 a2 a3 a4 a5 a6 a7 a8 a9) i := by
  intro i hi
  unfold OkAt
  rw [rdT_eq _ i hi]
  have num : ∀ n : Int, 0 ≤ n → n ≤ 1000000000 → OkItem 1 n (⟨#[]⟩ : ByteArray) 0 := fun n a b => .inl ⟨rfl, a, b, rfl, rfl⟩
  have : ∀ x ∈ bundleItems a0 a1 a2 a3 a4 a5 a6 a7 a8 a9, OkItem x.f0 x.f1 x.f2 x.f3 := by
    intro x hx
    unfold GoodP at h
    simp only [bundleItems, bundleNums, List.map_cons, List.map_nil, List.cons_append, List.nil_append, List.mem_cons, List.not_mem_nil, or_false] at hx
    rcases hx with rfl | rfl | rfl | rfl | rfl | rfl | rfl | rfl | rfl | rfl | rfl
    · exact .inr (.inr (.inr ⟨rfl, (by decide : (0 : Int) ≤ 10), (by decide : (10 : Int) ≤ 40), rfl, rfl⟩))
    · exact num a0 (by omega) (by omega)
    · exact num a1 (by omega) (by omega)
    · exact num (if a2 = true then 1 else 0) (by split <;> omega) (by split <;> omega)
    · exact num a3 (by omega) (by omega)
    · exact num a4 (by omega) (by omega)
    · exact num a5 (by omega) (by omega)
    · exact num a6 (by omega) (by omega)
    · exact num a7 (by omega) (by omega)
    · exact num a8 (by omega) (by omega)
    · exact .inr (.inl ⟨rfl, (by omega : a9.size ≤ 60), rfl, rfl⟩)
  exact this _ (List.getElem_mem hi)
/-- Each item takes at most 65 bytes; all but the payload's at most 5. -/
theorem bundleText_size {a0 a1 : Int} {a2 : Bool} {a3 a4 a5 a6 a7 a8 : Int} {a9 : ByteArray} (h : a9.size ≤ 60) : (itemsText (bundleItems a0 a1 a2 a3 a4 a5 a6 a7 a8 a9)).size ≤ 398 := by
  have num : ∀ n : Int, (itemText 1 n (⟨#[]⟩ : ByteArray) 0).size ≤ 5 := fun n => by
    simp only [itemText, if_true]; exact (headText_size 0 n).2
  have pay : (itemText 2 0 a9 0).size ≤ 65 := by
    have := headText_size 2 (a9.size : Int)
    simp only [itemText, if_true, if_neg (show ¬ (2 : Int) = 1 by decide), ByteArray.size_append]
    omega
  have lst : (itemText 4 0 (⟨#[]⟩ : ByteArray) 10).size ≤ 5 := (headText_size 4 10).2
  have emp : (⟨#[]⟩ : ByteArray).size = 0 := rfl
  simp only [bundleItems, bundleNums, List.map_cons, List.map_nil, List.cons_append, List.nil_append, itemsText, ByteArray.size_append, emp]
  have n0 := num a0
  have n1 := num a1
  have n2 := num (if a2 = true then 1 else 0)
  have n3 := num a3
  have n4 := num a4
  have n5 := num a5
  have n6 := num a6
  have n7 := num a7
  have n8 := num a8
  omega
/-- The bytes of a bundle. -/
def bundleText (a0 a1 : Int) (a2 : Bool) (a3 a4 a5 a6 a7 a8 : Int) (a9 : ByteArray) : ByteArray := withSum (itemsText (bundleItems a0 a1 a2 a3 a4 a5 a6 a7 a8 a9))
theorem bundleItems_len (a0 a1 : Int) (a2 : Bool) (a3 a4 a5 a6 a7 a8 : Int) (a9 : ByteArray) : (bundleItems a0 a1 a2 a3 a4 a5 a6 a7 a8 a9).length = 11 := by simp [bundleItems, bundleNums]
theorem specBundleText {a0 a1 : Int} {a2 : Bool} {a3 a4 a5 a6 a7 a8 : Int} {a9 : ByteArray} (h : GoodP a0 a1 a3 a4 a5 a6 a7 a8 a9.size) : Ev (fun k => spec_l3Bytes.f k a0 a1 a2 a3 a4 a5 a6 a7 a8 a9) (bundleText a0 a1 a2 a3 a4 a5 a6 a7 a8 a9) := by
  have hs : a9.size ≤ 60 := by unfold GoodP at h; omega
  have hz := bundleText_size (a0 := a0) (a1 := a1) (a2 := a2) (a3 := a3) (a4 := a4) (a5 := a5) (a6 := a6) (a7 := a7) (a8 := a8) hs
  simp only [spec_l3Bytes.f]
  refine Ev.bind (specItems ..) (Ev.bind (bytes_both _ (by rw [bundleItems_len]; omega) (bundleItems_ok h)).1 ?_)
  exact Ev.bind (specWith _ (by omega)) (Ev.now _)
theorem implBundle_go (a0 a1 : Int) (a2 : Bool) (a3 a4 a5 a6 a7 a8 : Int) (a9 : ByteArray) (ns : List Int) (hn : ns.length ≤ 9) {r : ByteArray × Bool} (d : Nat) : ∀ (x : List S63) (i : Nat), i ≤ ns.length → ns.length - i = d → x.length ≤ 1 + i →
    Ev (fun k => (impl_itemsBytes.f k (x ++ ((ns.drop i).map (fun n => (⟨1, n, (⟨#[]⟩ : ByteArray), 0⟩ : S63)) ++ [(⟨2, 0, a9, 0⟩ : S63)]))).bind fun t => (impl_WithCrc.f k t).bind fun b => some (b.1, b.2)) r →
    Ev (fun k => impl_BundleBytes.l0 k x ns (ns.length : Int) (i : Int) a0 a1 a2 a3 a4 a5 a6 a7 a8 a9) r := by
  induction d with
  | zero =>
    intro x i h0 hd hx hr
    rw [List.drop_eq_nil_of_le (by omega)] at hr
    refine Ev.step (fun k => by rw [impl_BundleBytes.l0]) ?_
    exact Ev.ite_neg (by omega) (Ev.ite_pos (by omega) hr)
  | succ d ih =>
    intro x i h0 hd hx hr
    have hi : i < ns.length := by omega
    have hw : wrap64 ((i : Int) + 1) = ((i + 1 : Nat) : Int) := by rw [w64 (by omega) (by omega)]; omega
    rw [List.drop_eq_getElem_cons hi] at hr
    have a := ih (x ++ [(⟨1, ns[i], (⟨#[]⟩ : ByteArray), 0⟩ : S63)]) (i + 1) (by omega) (by omega) (by simp; omega) (by
      rw [List.map_cons, List.cons_append] at hr
      rw [List.append_assoc, List.singleton_append]
      exact hr)
    refine Ev.step (fun k => by rw [impl_BundleBytes.l0]) ?_
    refine Ev.ite_pos (by omega) (Ev.ite_pos (by omega) (Ev.ite_pos (by omega) (Ev.ite_pos (by omega) ?_)))
    rw [hw, rd_eq ns i hi]
    exact a
/-- BundleBytes, of the two. -/
theorem bundleBytes_both (a0 a1 : Int) (a2 : Bool) (a3 a4 a5 a6 a7 a8 : Int) (a9 : ByteArray) (hb : -9223372036854775808 ≤ a8 ∧ a8 ≤ 9223372036854775807) :
    ∃ r, Ev (fun k => spec_BundleBytes.f k a0 a1 a2 a3 a4 a5 a6 a7 a8 a9) r ∧ Ev (fun k => impl_BundleBytes.f k a0 a1 a2 a3 a4 a5 a6 a7 a8 a9) r ∧
      (GoodP a0 a1 a3 a4 a5 a6 a7 a8 a9.size → r = (bundleText a0 a1 a2 a3 a4 a5 a6 a7 a8 a9, true)) ∧ (¬ GoodP a0 a1 a3 a4 a5 a6 a7 a8 a9.size → r = ((⟨#[]⟩ : ByteArray), false)) := by
  have g := implGood a0 a1 a2 a3 a4 a5 a6 a7 a8 a9 hb
  by_cases hg : GoodP a0 a1 a3 a4 a5 a6 a7 a8 a9.size
  · rw [decide_eq_true hg] at g
    have hs : a9.size ≤ 60 := by unfold GoodP at hg; omega
    have hz := bundleText_size (a0 := a0) (a1 := a1) (a2 := a2) (a3 := a3) (a4 := a4) (a5 := a5) (a6 := a6) (a7 := a7) (a8 := a8) hs
    refine ⟨(bundleText a0 a1 a2 a3 a4 a5 a6 a7 a8 a9, true), ?_, ?_, fun _ => rfl, fun h => absurd hg h⟩
    · simp only [spec_BundleBytes.f, specGood, decide_eq_true hg, Option.bind_some, if_true]
      exact Ev.bind (specBundleText hg) (Ev.now _)
    · have go : ∀ n : Int, n = (if a2 = true then 1 else 0) → Ev (fun k => impl_BundleBytes.j0 k n a0 a1 a2 a3 a4 a5 a6 a7 a8 a9) (bundleText a0 a1 a2 a3 a4 a5 a6 a7 a8 a9, true) := by
        intro n hn
        refine Ev.step (fun k => by rw [impl_BundleBytes.j0]) ?_
        refine Ev.some_bind ?_
        have := implBundle_go (r := (bundleText a0 a1 a2 a3 a4 a5 a6 a7 a8 a9, true)) a0 a1 a2 a3 a4 a5 a6 a7 a8 a9 (bundleNums a0 a1 a2 a3 a4 a5 a6 a7 a8) (by simp [bundleNums]) 9 [(⟨4, 0, (⟨#[]⟩ : ByteArray), 10⟩ : S63)] 0 (by omega) (by simp [bundleNums]) (by simp)
          (Ev.bind (bytes_both (bundleItems a0 a1 a2 a3 a4 a5 a6 a7 a8 a9) (by rw [bundleItems_len]; omega) (bundleItems_ok hg)).2 (Ev.bind (implWith _ hz) (Ev.now _)))
        rw [hn]
        exact this
      simp only [impl_BundleBytes.f]
      refine Ev.bind g (Ev.ite_pos rfl (Ev.ite (fun h => go 1 (by rw [if_pos h])) fun h => go 0 (by rw [if_neg h])))
  · rw [decide_eq_false hg] at g
    refine ⟨_, ?_, ?_, fun h => absurd h hg, fun _ => rfl⟩
    · simp only [spec_BundleBytes.f, specGood, decide_eq_false hg, Option.bind_some]
      exact Ev.ite_neg (by simp) (Ev.now _)
    · simp only [impl_BundleBytes.f]
      exact Ev.bind g (Ev.ite_neg (by simp) (Ev.now _))
theorem szBundle_val (a0 a1 : Int) (a2 : Bool) (a3 a4 a5 a6 a7 a8 : Int) (a9 : ByteArray) (h : a9.size ≤ maxLen) : laws_szBundle.f a0 a1 a2 a3 a4 a5 a6 a7 a8 a9 1048576 = some (if (a9.size : Int) ≤ 1048576 then 1048576 - (a9.size : Int) else -1) := by
  unfold maxLen at h
  unfold laws_szBundle.f
  rw [w64 (by omega) (by omega)]
  by_cases h : (a9.size : Int) ≤ 1048576
  · rw [if_neg (by omega), if_pos h]
  · rw [if_pos (by omega), if_neg h]
theorem FnExactBundleBytes : Go.Proofs.Ytcpfaoloidapkaa.GoalFnExactBundleBytes.Goal := by
  intro a0 a1 a2 a3 a4 a5 a6 a7 a8 a9 h0 h1 h3 h4 h5 h6 h7 h8 h9
  refine Ev.rounds ?_
  simp only [laws_FnExactBundleBytes.f, szBundle_val a0 a1 a2 a3 a4 a5 a6 a7 a8 a9 h9, Option.bind_some, laws_toBundle.f]
  refine Ev.ite (fun _ => Ev.now _) fun _ => ?_
  obtain ⟨r, x, y, _⟩ := bundleBytes_both a0 a1 a2 a3 a4 a5 a6 a7 a8 a9 (wf_i64 h8)
  refine Ev.bind x (Ev.bind y ?_)
  simp
  exact Ev.now _

end Go.Proofs.Ytcpfaoloidapkaa.Pure
