/- What the printed program answers at this law is true, for every argument. -/
import Derived.Test.YtkljbkminihlbaaQFnExactTakeHeadx5
import Derived.Test.YtkljbkminihlbaaPlain
import Derived.Test.YtkljbkminihlbaaGoalFnExactTakeHead
set_option linter.unusedVariables false
set_option linter.unusedSimpArgs false
namespace Go.Proofs.Ytkljbkminihlbaa.Pure
open Go.RowKit Go.Proofs.Ytkljbkminihlbaa.QFnExactTakeHead Go.Proofs.YtkljbkminihlbaaW.PrintWords Go.Proofs.YtkljbkminihlbaaW.PrintLast Go.Proofs.Ytkljbkminihlbaa.Plain Go.Proofs.Ytkljbkminihlbaa.GoalFnExactTakeHead

/-- The bytes of a head. -/
def headNums (m n : Int) : List Int :=
  if n < 24 then [(32 * m + n) % 256] else if n < 256 then [(32 * m + 24) % 256, n % 256] else if n < 65536 then [(32 * m + 25) % 256, n / 256 % 256, n % 256]
  else [(32 * m + 26) % 256, n / 16777216 % 256, n / 65536 % 256, n / 256 % 256, n % 256]
def headText (m n : Int) : ByteArray := strOfNums (headNums m n)
theorem headNums_len (m n : Int) : 1 ≤ (headNums m n).length ∧ (headNums m n).length ≤ 5 := by
  unfold headNums
  split
  · simp
  · split
    · simp
    · split <;> simp
theorem implHead (m n : Int) (h0 : 0 ≤ m) (h1 : m ≤ 7) (h2 : 0 ≤ n) (h3 : n ≤ 4294967295) : impl_head.f m n = some (headText m n) := by
  have e : wrap64 (32 * m) = 32 * m := w64 (by omega) (by omega)
  unfold impl_head.f headText headNums
  rw [e]
  by_cases a : n < 24
  · rw [if_pos a, if_pos a]; congr 2; simp
  · rw [if_neg a, if_neg a]
    by_cases b : n < 256
    · rw [if_pos b, if_pos b]; congr 2; simp
    · rw [if_neg b, if_neg b]
      by_cases c : n < 65536
      · rw [if_pos c, if_pos c]; congr 2; simp
      · rw [if_neg c, if_neg c]; congr 2; simp
theorem specNumber1 (n : Int) : Ev (fun k => spec_l2Number.f k n 1) (strOfNums [n % 256]) := by
  have w0 : wrap64 (1 - 1) = 0 := by unfold wrap64; omega
  have w1 : wrap64 (0 - 1) = -1 := by unfold wrap64; omega
  simp only [spec_l2Number.f, if_pos (show (0 : Int) ≤ 1 by decide), if_pos (show (1 : Int).toNat ≤ 281474976710656 by decide), w0]
  refine Ev.step (fun k => by rw [spec_l2Number.l0]) ?_
  refine Ev.ite_pos (by decide) (Ev.ite_pos (by decide) (Ev.ite_pos (by decide) ?_))
  rw [w1]
  refine Ev.step (fun k => by rw [spec_l2Number.l0]) ?_
  refine Ev.ite_neg (by decide) ?_
  exact Ev.now' rfl
theorem specNumber2 (n : Int) : Ev (fun k => spec_l2Number.f k n 2) (strOfNums [n / 256 % 256, n % 256]) := by
  have w0 : wrap64 (2 - 1) = 1 := by unfold wrap64; omega
  have w1 : wrap64 (1 - 1) = 0 := by unfold wrap64; omega
  have w2 : wrap64 (0 - 1) = -1 := by unfold wrap64; omega
  simp only [spec_l2Number.f, if_pos (show (0 : Int) ≤ 2 by decide), if_pos (show (2 : Int).toNat ≤ 281474976710656 by decide), w0]
  refine Ev.step (fun k => by rw [spec_l2Number.l0]) ?_
  refine Ev.ite_pos (by decide) (Ev.ite_pos (by decide) (Ev.ite_pos (by decide) ?_))
  rw [w1]
  refine Ev.step (fun k => by rw [spec_l2Number.l0]) ?_
  refine Ev.ite_pos (by decide) (Ev.ite_pos (by decide) (Ev.ite_pos (by simp [List.replicate]) ?_))
  rw [w2]
  refine Ev.step (fun k => by rw [spec_l2Number.l0]) ?_
  refine Ev.ite_neg (by decide) ?_
  exact Ev.now' rfl
theorem specNumber4 (n : Int) (h : 0 ≤ n) : Ev (fun k => spec_l2Number.f k n 4) (strOfNums [n / 16777216 % 256, n / 65536 % 256, n / 256 % 256, n % 256]) := by
  have w0 : wrap64 (4 - 1) = 3 := by unfold wrap64; omega
  have w1 : wrap64 (3 - 1) = 2 := by unfold wrap64; omega
  have w2 : wrap64 (2 - 1) = 1 := by unfold wrap64; omega
  have w3 : wrap64 (1 - 1) = 0 := by unfold wrap64; omega
  have w4 : wrap64 (0 - 1) = -1 := by unfold wrap64; omega
  have e1 : n / 256 / 256 = n / 65536 := by omega
  have e2 : n / 65536 / 256 = n / 16777216 := by omega
  simp only [spec_l2Number.f, if_pos (show (0 : Int) ≤ 4 by decide), if_pos (show (4 : Int).toNat ≤ 281474976710656 by decide), w0]
  refine Ev.step (fun k => by rw [spec_l2Number.l0]) ?_
  refine Ev.ite_pos (by decide) (Ev.ite_pos (by decide) (Ev.ite_pos (by decide) ?_))
  rw [w1]
  refine Ev.step (fun k => by rw [spec_l2Number.l0]) ?_
  refine Ev.ite_pos (by decide) (Ev.ite_pos (by decide) (Ev.ite_pos (by simp [List.replicate]) ?_))
  rw [w2]
  refine Ev.step (fun k => by rw [spec_l2Number.l0]) ?_
  refine Ev.ite_pos (by decide) (Ev.ite_pos (by decide) (Ev.ite_pos (by simp [List.replicate]) ?_))
  rw [w3]
  refine Ev.step (fun k => by rw [spec_l2Number.l0]) ?_
  refine Ev.ite_pos (by decide) (Ev.ite_pos (by decide) (Ev.ite_pos (by simp [List.replicate]) ?_))
  rw [w4]
  refine Ev.step (fun k => by rw [spec_l2Number.l0]) ?_
  refine Ev.ite_neg (by decide) ?_
  rw [e1, e2]
  exact Ev.now' rfl
theorem specHead (m n : Int) (h0 : 0 ≤ m) (h1 : m ≤ 7) (h2 : 0 ≤ n) (h3 : n ≤ 4294967295) : Ev (fun k => spec_l2Head.f k m n) (headText m n) := by
  have e : wrap64 (32 * m) = 32 * m := w64 (by omega) (by omega)
  unfold headText headNums
  simp only [spec_l2Head.f, e]
  by_cases a : n < 24
  · simp only [if_pos a, w64 (show -9223372036854775808 ≤ 32 * m + n by omega) (show 32 * m + n ≤ 9223372036854775807 by omega)]
    exact Ev.bind (specNumber1 _) (Ev.now _)
  · simp only [if_neg a]
    by_cases b : n < 256
    · simp only [if_pos b, w64 (show -9223372036854775808 ≤ 32 * m + 24 by omega) (show 32 * m + 24 ≤ 9223372036854775807 by omega)]
      refine Ev.bind (specNumber1 _) (Ev.bind (specNumber1 _) ?_)
      simp only [strOfNums_size]
      refine Ev.ite_pos (by simp) ?_
      exact Ev.now' (by rw [← strOfNums_append]; rfl)
    · simp only [if_neg b]
      by_cases c : n < 65536
      · simp only [if_pos c, w64 (show -9223372036854775808 ≤ 32 * m + 25 by omega) (show 32 * m + 25 ≤ 9223372036854775807 by omega)]
        refine Ev.bind (specNumber1 _) (Ev.bind (specNumber2 _) ?_)
        simp only [strOfNums_size]
        refine Ev.ite_pos (by simp) ?_
        exact Ev.now' (by rw [← strOfNums_append]; rfl)
      · simp only [if_neg c, w64 (show -9223372036854775808 ≤ 32 * m + 26 by omega) (show 32 * m + 26 ≤ 9223372036854775807 by omega)]
        refine Ev.bind (specNumber1 _) (Ev.bind (specNumber4 _ (by omega)) ?_)
        simp only [strOfNums_size]
        refine Ev.ite_pos (by simp) ?_
        exact Ev.now' (by rw [← strOfNums_append]; rfl)
theorem specIn (a b c : Int) : spec_l1In.f a b c = some (decide (b ≤ a ∧ a ≤ c)) := by
  unfold spec_l1In.f
  by_cases h : b ≤ a <;> simp [h]
theorem specValue (a : Int) : spec_l1Value.f a = some (decide (0 ≤ a ∧ a ≤ 1000000000)) := by
  simp [spec_l1Value.f, specIn]
theorem implWithin (a b c : Int) : impl_within.f a b c = some (decide (b ≤ a ∧ a ≤ c)) := by
  unfold impl_within.f
  by_cases h : b ≤ a <;> simp [h]
theorem implValue (a : Int) : impl_isValue.f a = some (decide (0 ≤ a ∧ a ≤ 1000000000)) := by
  simp [impl_isValue.f, implWithin]
/-- How many bytes follow the first one of a head. -/
def manyOf (t : Nat) : Nat := if t = 24 then 1 else if t = 25 then 2 else if t = 26 then 4 else 0
def byteAt (s : ByteArray) (p : Nat) : Nat := (bt s (p : Int)).toNat
theorem byteAt_eq (s : ByteArray) (p : Nat) : bt s (p : Int) = (byteAt s p : Int) := by
  have := bt_range s (p : Int)
  unfold byteAt
  omega
theorem byteAt_lt (s : ByteArray) (p : Nat) : byteAt s p < 256 := by
  have := bt_range s (p : Int)
  unfold byteAt
  omega
def numAt (s : ByteArray) (p : Nat) : Nat → Nat
  | 0 => 0
  | j + 1 => 256 * numAt s p j + byteAt s (p + j)
theorem numAt_lt (s : ByteArray) (p : Nat) : ∀ j, numAt s p j < 256 ^ j
  | 0 => by simp [numAt]
  | j + 1 => by
    have h := numAt_lt s p j
    have := byteAt_lt s (p + j)
    have e : 256 ^ (j + 1) = 256 * 256 ^ j := by rw [Nat.pow_succ, Nat.mul_comm]
    rw [numAt, e]
    omega
theorem numAt_succ (s : ByteArray) (p j : Nat) : numAt s p (j + 1) = 256 * numAt s p j + byteAt s (p + j) := rfl
theorem numAt_zero (s : ByteArray) (p : Nat) : numAt s p 0 = 0 := rfl
attribute [local irreducible] numAt byteAt
theorem numAt_small (s : ByteArray) (p j : Nat) (h : j ≤ 4) : numAt s p j < 4294967296 :=
  Nat.lt_of_lt_of_le (numAt_lt s p j) (show 256 ^ j ≤ 256 ^ 4 from Nat.pow_le_pow_right (by decide) h)
theorem manyOf_le (t : Nat) : manyOf t ≤ 4 := by
  unfold manyOf
  split
  · omega
  · split
    · omega
    · split <;> omega
theorem w64_succ {x : Nat} (h : x ≤ 4611686018427387904) : wrap64 ((x : Int) + 1) = ((x + 1 : Nat) : Int) := by
  rw [w64 (by omega) (by omega)]
  omega
theorem w64_nat {x : Nat} (h : x ≤ 4611686018427387904) : wrap64 (x : Int) = (x : Int) := w64 (by omega) (by omega)
theorem w64_add {x y : Nat} (h : x + y ≤ 4611686018427387904) : wrap64 ((x : Int) + (y : Int)) = ((x + y : Nat) : Int) := by
  rw [w64 (by omega) (by omega)]
  omega
theorem byte_parts {b : Nat} (h : b < 256) : wrap64 (b : Int) = (b : Int) ∧ Int.tmod (b : Int) 32 = ((b % 32 : Nat) : Int) ∧ wrap64 (Int.tdiv (b : Int) 32) = ((b / 32 : Nat) : Int) := by
  refine ⟨w64_nat (by omega), ?_, ?_⟩
  · rw [Int.tmod_eq_emod_of_nonneg (by omega)]; omega
  · rw [Int.tdiv_eq_ediv_of_nonneg (by omega), w64 (by omega) (by omega)]; omega
theorem wrap_join {x b : Nat} (hx : x < 4294967296) (hb : b < 256) : wrap64 (wrap64 (256 * (x : Int)) + wrap64 (b : Int)) = ((256 * x + b : Nat) : Int) := by
  rw [w64 (x := 256 * (x : Int)) (by omega) (by omega), w64 (x := (b : Int)) (by omega) (by omega), w64 (by omega) (by omega)]
  omega
theorem or_low8_i64 {x y : Int} (h0 : 0 ≤ x) (h1 : x < 9223372036854775807) (hx : x % 256 = 0) (hy0 : 0 ≤ y) (hy1 : y < 256) : Go.bits .or .i64 x y = x + y :=
  bits_join .i64 63 (by decide) i64_wraps 8 x y h0 (by simpa using hx) (by omega) hy0 (by simpa using hy1) (by omega)
theorem or_join {x b : Nat} (hx : x < 4294967296) (hb : b < 256) : Go.bits .or .i64 (wrap64 ((x : Int) * 256)) (wrap64 (b : Int)) = ((256 * x + b : Nat) : Int) := by
  rw [w64 (x := (b : Int)) (by omega) (by omega), w64 (by omega) (by omega), or_low8_i64 (by omega) (by omega) (by omega) (by omega) (by omega)]
  omega
/-- A head that is told as what it is. -/
def headEnd (s : ByteArray) (a m n e : Nat) : Int × Int × Int × Bool :=
  if n ≤ 1000000000 ∧ (headText m n).toList = (s.extract a e).toList then ((m : Int), (n : Int), (e : Int), true) else (0, 0, 0, false)
def headAt (s : ByteArray) (a : Nat) : Int × Int × Int × Bool :=
  if byteAt s a % 32 > 26 ∨ a + 1 + manyOf (byteAt s a % 32) > s.size then (0, 0, 0, false)
  else headEnd s a (byteAt s a / 32) (if manyOf (byteAt s a % 32) = 0 then byteAt s a % 32 else numAt s (a + 1) (manyOf (byteAt s a % 32))) (a + 1 + manyOf (byteAt s a % 32))
theorem bt_extract (s : ByteArray) (p q j : Nat) (hq : q ≤ s.size) (hj : p + j < q) : bt (s.extract p q) (j : Int) = bt s ((p + j : Nat) : Int) := by
  have h1 : (s.extract p q).size = q - p := by rw [ByteArray.size_extract]; omega
  unfold bt
  rw [dif_pos (show ((j : Nat) : Int).toNat < (s.extract p q).size by rw [h1]; omega), dif_pos (show ((p + j : Nat) : Int).toNat < s.size by omega)]
  congr 1
  simp only [Int.toNat_natCast]
  rw [ByteArray.getElem_extract]
theorem implHeadEnd {s : ByteArray} (hs : s.size ≤ 1099511627776) (a m n e : Nat) (hm : m ≤ 7) (hn : n < 4294967296) (ha : a ≤ e) (he : e ≤ s.size) :
    (impl_isValue.f (n : Int)).bind (fun t137 => (if t137 = true then ((impl_head.f (m : Int) (n : Int)).bind fun t138 => (if 0 ≤ (a : Int) then (if (a : Int) ≤ (e : Int) then (if (e : Int) ≤ (s.size : Int) then (if t138.toList = (s.extract ((a : Int)).toNat ((e : Int)).toNat).toList then (some ((m : Int), (n : Int), (e : Int), true)) else (some (0, 0, 0, false))) else (none)) else (none)) else (none))) else (some (0, 0, 0, false)))) = some (headEnd s a m n e) := by
  have h1 : (0 : Int) ≤ (a : Int) := by omega
  have h2 : (a : Int) ≤ (e : Int) := by omega
  have h3 : (e : Int) ≤ (s.size : Int) := by omega
  rw [implValue, Option.bind_some]
  unfold headEnd
  by_cases hv : n ≤ 1000000000
  · have hv' : (0 : Int) ≤ (n : Int) ∧ (n : Int) ≤ 1000000000 := by omega
    rw [decide_eq_true hv', if_pos rfl, implHead _ _ (by omega) (by omega) (by omega) (by omega), Option.bind_some, if_pos h1, if_pos h2, if_pos h3, Int.toNat_natCast, Int.toNat_natCast]
    by_cases hx : (headText (m : Int) (n : Int)).toList = (s.extract a e).toList
    · rw [if_pos hx, if_pos ⟨hv, hx⟩]
    · rw [if_neg hx, if_neg (fun h => hx h.2)]
  · have hv' : ¬ ((0 : Int) ≤ (n : Int) ∧ (n : Int) ≤ 1000000000) := by omega
    rw [decide_eq_false hv', if_neg (by decide), if_neg (fun h => hv h.1)]
theorem implTakeHead_go {s : ByteArray} (hs : s.size ≤ 1099511627776) (a m many : Nat) (hm : m ≤ 7) (h4 : many ≤ 4) (he : a + 1 + many ≤ s.size) (n0 : Nat) (hn0 : many = 0 ∧ n0 < 32 ∨ 0 < many ∧ n0 = numAt s (a + 1) many) (d : Nat) : ∀ (j x : Nat), j ≤ many → many - j = d → (0 < many → x = numAt s (a + 1) j) → (many = 0 → x = n0) →
    Ev (fun k => impl_takeHead.l0 k s ((a + 1 + j : Nat) : Int) (m : Int) (x : Int) (a : Int) (many : Int) (j : Int)) (headEnd s a m n0 (a + 1 + many)) := by
  induction d with
  | zero =>
    intro j x h1 h2 h3 h5
    obtain rfl : j = many := by omega
    have hx : x = n0 := by
      rcases hn0 with h | h
      · exact h5 h.1
      · rw [h3 h.1, h.2]
    subst hx
    have hlt : x < 4294967296 := by
      rcases hn0 with h | h
      · omega
      · rw [h.2]; exact numAt_small _ _ _ h4
    refine Ev.step (fun k => by rw [impl_takeHead.l0]) ?_
    refine Ev.ite_neg (by omega) ?_
    rw [implHeadEnd hs a m x (a + 1 + j) hm hlt (by omega) he]
    exact Ev.now _
  | succ d ih =>
    intro j x h1 h2 h3 h5
    have hx := h3 (by omega)
    have hb := byteAt_lt s (a + 1 + j)
    have hsm := numAt_small s (a + 1) j (by omega)
    rw [← hx] at hsm
    have hnx : numAt s (a + 1) (j + 1) = 256 * x + byteAt s (a + 1 + j) := by rw [numAt_succ, hx]
    have g1 : (j : Int) < (many : Int) := by omega
    have g2 : (0 : Int) ≤ ((a + 1 + j : Nat) : Int) := by omega
    have g3 : ((a + 1 + j : Nat) : Int) < (s.size : Int) := by omega
    have next := ih (j + 1) (numAt s (a + 1) (j + 1)) (by omega) (by omega) (fun _ => rfl) (fun h => by omega)
    have e1 : wrap64 (((a + 1 + j : Nat) : Int) + 1) = ((a + 1 + (j + 1) : Nat) : Int) := w64_succ (by omega)
    have e2 : wrap64 ((j : Int) + 1) = ((j + 1 : Nat) : Int) := w64_succ (by omega)
    have e3 : wrap64 (wrap64 (256 * (x : Int)) + wrap64 (byteAt s (a + 1 + j) : Int)) = ((numAt s (a + 1) (j + 1) : Nat) : Int) := by
      rw [hnx]
      exact wrap_join hsm hb
    refine Ev.step (fun k => by rw [impl_takeHead.l0]) ?_
    refine Ev.ite_pos g1 (Ev.ite_pos g2 (Ev.ite_pos g3 ?_))
    rw [byteAt_eq, e1, e2, e3]
    exact next
theorem headAt_out {s : ByteArray} {a many : Nat} (hm : manyOf (byteAt s a % 32) = many) (h : byteAt s a % 32 > 26 ∨ a + 1 + many > s.size) : headAt s a = (0, 0, 0, false) := by
  subst hm
  unfold headAt
  exact if_pos h
theorem headAt_short {s : ByteArray} {a : Nat} (hm : manyOf (byteAt s a % 32) = 0) (h : ¬ (byteAt s a % 32 > 26)) (h2 : a + 1 ≤ s.size) : headAt s a = headEnd s a (byteAt s a / 32) (byteAt s a % 32) (a + 1 + 0) := by
  unfold headAt
  rw [hm, if_neg (show ¬ (byteAt s a % 32 > 26 ∨ a + 1 + 0 > s.size) from fun h3 => h3.elim h (by omega))]
  rfl
theorem headAt_long {s : ByteArray} {a many : Nat} (hm : manyOf (byteAt s a % 32) = many) (h0 : 0 < many) (h : ¬ (byteAt s a % 32 > 26)) (h2 : a + 1 + many ≤ s.size) : headAt s a = headEnd s a (byteAt s a / 32) (numAt s (a + 1) many) (a + 1 + many) := by
  unfold headAt
  rw [hm, if_neg (show ¬ (byteAt s a % 32 > 26 ∨ a + 1 + many > s.size) from fun h3 => h3.elim h (by omega)), if_neg (show ¬ many = 0 by omega)]
/-- A head of more than the numbers that there are is none. -/
theorem headEnd_wide {s : ByteArray} {a m n : Nat} (h0 : 26 < n) (h1 : n < 32) (ha : a + 1 ≤ s.size) : headEnd s a m n (a + 1 + 0) = (0, 0, 0, false) := by
  unfold headEnd
  refine if_neg fun h => ?_
  have hl := congrArg List.length h.2
  unfold headText at hl
  rw [strOfNums_toList, List.length_map, ByteArray.toList_eq] at hl
  unfold headNums at hl
  rw [if_neg (by omega), if_pos (by omega)] at hl
  have h9 : (s.extract a (a + 1 + 0)).size = 1 := by rw [ByteArray.size_extract]; omega
  have h10 : (s.extract a (a + 1 + 0)).data.toList.length = 1 := h9
  rw [h10] at hl
  simp at hl
theorem implTakeHead_tail {s : ByteArray} (hs : s.size ≤ 1099511627776) (a : Nat) (ha : a < s.size) (x many : Nat) (hmany : manyOf (byteAt s a % 32) = many) (h0 : 0 < many → x = 0) (h1 : many = 0 → x = byteAt s a % 32) :
    Ev (fun k => impl_takeHead.j0 k s (a : Int) ((byteAt s a / 32 : Nat) : Int) (x : Int) (many : Int)) (headAt s a) := by
  have hb := byteAt_lt s a
  have h4 : many ≤ 4 := by rw [← hmany]; exact manyOf_le _
  have hm7 : byteAt s a / 32 ≤ 7 := by omega
  have ht32 : byteAt s a % 32 < 32 := by omega
  have go : ∀ n0, a + 1 + many ≤ s.size → (many = 0 ∧ n0 < 32 ∨ 0 < many ∧ n0 = numAt s (a + 1) many) → (many = 0 → x = n0) → Ev (fun k => impl_takeHead.l0 k s ((a + 1 : Nat) : Int) ((byteAt s a / 32 : Nat) : Int) (x : Int) (a : Int) (many : Int) 0) (headEnd s a (byteAt s a / 32) n0 (a + 1 + many)) := fun n0 hc hn0 hx0 =>
    implTakeHead_go hs a (byteAt s a / 32) many hm7 h4 hc n0 hn0 many 0 x (Nat.zero_le _) (Nat.sub_zero _) (fun h => by rw [h0 h, numAt_zero]) hx0
  have e1 : wrap64 ((a : Int) + 1) = ((a + 1 : Nat) : Int) := w64_succ (by omega)
  have e0 : wrap64 (((a + 1 : Nat) : Int) - 1) = (a : Int) := by rw [w64 (by omega) (by omega)]; omega
  have e2 : wrap64 ((s.size : Int) - ((a + 1 : Nat) : Int)) = (s.size : Int) - (a + 1 : Nat) := w64 (by omega) (by omega)
  refine Ev.step (fun k => by rw [impl_takeHead.j0]) ?_
  rw [e1, e0, e2]
  clear e1 e0 e2
  by_cases hc : a + 1 + many ≤ s.size
  · refine Ev.ite_neg (by omega) ?_
    by_cases hm0 : many = 0
    · subst hm0
      have h5 := go (byteAt s a % 32) hc (.inl ⟨rfl, ht32⟩) h1
      by_cases ht : byteAt s a % 32 > 26
      · rw [headAt_out hmany (.inl ht)]
        rw [headEnd_wide ht ht32 (by omega)] at h5
        exact h5
      · rw [headAt_short hmany ht (by omega)]
        exact h5
    · have ht : ¬ (byteAt s a % 32 > 26) := fun ht => hm0 (by rw [← hmany]; unfold manyOf; rw [if_neg (by omega), if_neg (by omega), if_neg (by omega)])
      rw [headAt_long hmany (by omega) ht hc]
      exact go _ hc (.inr ⟨by omega, rfl⟩) (fun h => absurd h hm0)
  · rw [headAt_out hmany (.inr (by omega))]
    exact Ev.ite_pos (by omega) (Ev.now _)
theorem shl1 : shl .i64 1 0 = 1 ∧ shl .i64 1 1 = 2 ∧ shl .i64 1 2 = 4 := by decide
theorem implTakeHead {s : ByteArray} (hs : s.size ≤ 1099511627776) (a : Nat) (ha : a < s.size) : Ev (fun k => impl_takeHead.f k s (a : Int)) (headAt s a) := by
  have tail := implTakeHead_tail hs a ha
  obtain ⟨eb, em, ed⟩ := byte_parts (byteAt_lt s a)
  have ew : wrap64 ((s.size : Int) - 1) = (s.size : Int) - 1 := w64 (by omega) (by omega)
  have hin : (0 ≤ (a : Int) ∧ (a : Int) ≤ (s.size : Int) - 1) := by omega
  have w0 : wrap64 (((24 : Nat) : Int) - 24) = 0 := by rw [w64 (by omega) (by omega)]; rfl
  have w1 : wrap64 (((25 : Nat) : Int) - 24) = 1 := by rw [w64 (by omega) (by omega)]; rfl
  have w2 : wrap64 (((26 : Nat) : Int) - 24) = 2 := by rw [w64 (by omega) (by omega)]; rfl
  simp only [impl_takeHead.f, ew, implWithin, Option.bind_some, hin, and_self, decide_true, if_true, if_pos (show (0 : Int) ≤ (a : Int) by omega), if_pos (show (a : Int) < (s.size : Int) by omega), byteAt_eq, eb, em, ed]
  clear eb em ed ew
  generalize byteAt s a % 32 = t at tail ⊢
  by_cases h24 : t = 24
  · subst h24
    rw [w0, shl1.1]
    exact Ev.ite_pos rfl (Ev.ite_pos (by decide) (tail 0 1 rfl (fun _ => rfl) (fun h => by omega)))
  · refine Ev.ite_neg (by omega) ?_
    by_cases h25 : t = 25
    · subst h25
      rw [w1, shl1.2.1]
      exact Ev.ite_pos rfl (Ev.ite_pos (by decide) (tail 0 2 rfl (fun _ => rfl) (fun h => by omega)))
    · refine Ev.ite_neg (by omega) ?_
      by_cases h26 : t = 26
      · subst h26
        rw [w2, shl1.2.2]
        exact Ev.ite_pos rfl (Ev.ite_pos (by decide) (tail 0 4 rfl (fun _ => rfl) (fun h => by omega)))
      · refine Ev.ite_neg (by omega) ?_
        exact tail t 0 (by unfold manyOf; rw [if_neg h24, if_neg h25, if_neg h26]) (fun h => by omega) (fun _ => rfl)
theorem specHeadEnd {s : ByteArray} (hs : s.size ≤ 1099511627776) (a m n many : Nat) (hm : m ≤ 7) (hn : n < 4294967296) (h4 : many ≤ 4) (he : a + 1 + many ≤ s.size) :
    Ev (fun k => spec_l2TakeHead.j3 k s (a : Int) (m : Int) (n : Int) (many : Int)) (headEnd s a m n (a + 1 + many)) := by
  have e1 : wrap64 (wrap64 ((a : Int) + 1) + (many : Int)) = ((a + 1 + many : Nat) : Int) := by rw [w64_succ (by omega), w64_add (by omega)]
  refine Ev.step (fun k => by rw [spec_l2TakeHead.j3]) ?_
  rw [specValue, e1]
  clear e1
  simp only [Option.bind_some]
  unfold headEnd
  by_cases hv : n ≤ 1000000000
  · have hv' : (0 : Int) ≤ (n : Int) ∧ (n : Int) ≤ 1000000000 := by omega
    rw [decide_eq_true hv']
    refine Ev.ite_pos rfl (Ev.bind (specHead _ _ (by omega) (by omega) (by omega) (by omega)) (Ev.ite_pos (by omega) (Ev.ite_pos (by omega) (Ev.ite_pos (by omega) ?_))))
    rw [Int.toNat_natCast, Int.toNat_natCast]
    by_cases hx : (headText (m : Int) (n : Int)).toList = (s.extract a (a + 1 + many)).toList
    · rw [if_pos (show n ≤ 1000000000 ∧ (headText (m : Int) (n : Int)).toList = (s.extract a (a + 1 + many)).toList from ⟨hv, hx⟩)]
      exact Ev.ite_pos hx (Ev.now _)
    · rw [if_neg (show ¬ (n ≤ 1000000000 ∧ (headText (m : Int) (n : Int)).toList = (s.extract a (a + 1 + many)).toList) from fun h => hx h.2)]
      exact Ev.ite_neg hx (Ev.now _)
  · have hv' : ¬ ((0 : Int) ≤ (n : Int) ∧ (n : Int) ≤ 1000000000) := by omega
    rw [decide_eq_false hv', if_neg (show ¬ (n ≤ 1000000000 ∧ (headText (m : Int) (n : Int)).toList = (s.extract a (a + 1 + many)).toList) from fun h => hv h.1)]
    exact Ev.ite_neg (by decide) (Ev.now _)
theorem specTakeHead_go {s : ByteArray} (hs : s.size ≤ 1099511627776) (a m many : Nat) (hm : m ≤ 7) (h4 : many ≤ 4) (he : a + 1 + many ≤ s.size) (d : Nat) : ∀ (j : Nat), j ≤ many → many - j = d →
    Ev (fun k => spec_l2TakeHead.l0 k s (a : Int) (m : Int) ((numAt s (a + 1) j : Nat) : Int) (many : Int) (bytesOf (s.extract (a + 1) (a + 1 + many))) (many : Int) (j : Int)) (headEnd s a m (numAt s (a + 1) many) (a + 1 + many)) := by
  have hl : (bytesOf (s.extract (a + 1) (a + 1 + many))).length = many := by rw [bytesOf_length, ByteArray.size_extract]; omega
  induction d with
  | zero =>
    intro j h1 h2
    obtain rfl : j = many := by omega
    refine Ev.step (fun k => by rw [spec_l2TakeHead.l0]) ?_
    refine Ev.ite_neg (by omega) ?_
    exact specHeadEnd hs a m _ j hm (numAt_small _ _ _ h4) h4 he
  | succ d ih =>
    intro j h1 h2
    have hb := byteAt_lt s (a + 1 + j)
    have hsm := numAt_small s (a + 1) j (by omega)
    have hj : a + 1 + j < a + 1 + many := by omega
    have g1 : (j : Int) < (many : Int) := by omega
    have g2 : (0 : Int) ≤ (j : Int) := by omega
    have next := ih (j + 1) (by omega) (by omega)
    have g3 : (j : Int) < ((bytesOf (s.extract (a + 1) (a + 1 + many))).length : Int) := by rw [hl]; exact g1
    have e2 : wrap64 ((j : Int) + 1) = ((j + 1 : Nat) : Int) := w64_succ (by omega)
    have e3 : Go.bits .or .i64 (wrap64 (((numAt s (a + 1) j : Nat) : Int) * 256)) (wrap64 (rd (bytesOf (s.extract (a + 1) (a + 1 + many))) (j : Int))) = ((numAt s (a + 1) (j + 1) : Nat) : Int) := by
      rw [rd_bytesOf, bt_extract s (a + 1) (a + 1 + many) j he hj, byteAt_eq, numAt_succ]
      exact or_join hsm hb
    refine Ev.step (fun k => by rw [spec_l2TakeHead.l0]) ?_
    refine Ev.ite_pos g1 (Ev.ite_pos g2 (Ev.ite_pos g3 ?_))
    rw [e3, e2]
    exact next
theorem specTakeHead_out {s : ByteArray} (a m n many : Int) : Ev (fun k => spec_l2TakeHead.j1 k s a m n many true) (0, 0, 0, false) := by
  refine Ev.step (fun k => by rw [spec_l2TakeHead.j1]) ?_
  exact Ev.ite_pos rfl (Ev.now _)
theorem specTakeHead_tail {s : ByteArray} (hs : s.size ≤ 1099511627776) (a : Nat) (ha : a < s.size) (many : Nat) (hmany : manyOf (byteAt s a % 32) = many) :
    Ev (fun k => spec_l2TakeHead.j0 k s (a : Int) ((byteAt s a / 32 : Nat) : Int) ((byteAt s a % 32 : Nat) : Int) (many : Int)) (headAt s a) := by
  have hb := byteAt_lt s a
  have h4 : many ≤ 4 := by rw [← hmany]; exact manyOf_le _
  have hm7 : byteAt s a / 32 ≤ 7 := by omega
  have ht32 : byteAt s a % 32 < 4294967296 := by omega
  have e1 : wrap64 ((a : Int) + 1) = ((a + 1 : Nat) : Int) := w64_succ (by omega)
  have e3 : wrap64 (((a + 1 : Nat) : Int) + (many : Int)) = ((a + 1 + many : Nat) : Int) := w64_add (by omega)
  refine Ev.step (fun k => by rw [spec_l2TakeHead.j0]) ?_
  by_cases ht : byteAt s a % 32 > 26
  · rw [headAt_out hmany (.inl ht)]
    exact Ev.ite_pos (by omega) (specTakeHead_out _ _ _ _)
  · refine Ev.ite_neg (by omega) ?_
    rw [e1, e3]
    by_cases hc : a + 1 + many ≤ s.size
    · have c1 : ¬ ((a + 1 + many : Nat) : Int) > (s.size : Int) := by omega
      rw [decide_eq_false c1]
      refine Ev.step (fun k => by rw [spec_l2TakeHead.j1]) ?_
      refine Ev.ite_neg (by decide) ?_
      by_cases hm0 : many = 0
      · subst hm0
        rw [headAt_short hmany ht (by omega)]
        exact Ev.ite_neg (by decide) (specHeadEnd hs a _ _ 0 hm7 ht32 h4 hc)
      · rw [headAt_long hmany (by omega) ht hc, e1, e3]
        have c2 : (many : Int) > 0 := by omega
        have c3 : (0 : Int) ≤ ((a + 1 : Nat) : Int) := by omega
        have c4 : ((a + 1 : Nat) : Int) ≤ ((a + 1 + many : Nat) : Int) := by omega
        have c5 : ((a + 1 + many : Nat) : Int) ≤ (s.size : Int) := by omega
        have c6 : (s.extract (a + 1) (a + 1 + many)).size ≤ 9223372036854775807 := by rw [ByteArray.size_extract]; omega
        have hl : (bytesOf (s.extract (a + 1) (a + 1 + many))).length = many := by rw [bytesOf_length, ByteArray.size_extract]; omega
        refine Ev.ite_pos c2 (Ev.ite_pos c3 (Ev.ite_pos c4 (Ev.ite_pos c5 ?_)))
        rw [Int.toNat_natCast, Int.toNat_natCast]
        refine Ev.ite_pos c6 ?_
        simp only [Option.bind_some]
        rw [hl]
        have := specTakeHead_go hs a _ many hm7 h4 hc many 0 (Nat.zero_le _) (Nat.sub_zero _)
        rw [numAt_zero] at this
        exact this
    · have c1 : ((a + 1 + many : Nat) : Int) > (s.size : Int) := by omega
      rw [headAt_out hmany (.inr (by omega)), decide_eq_true c1]
      exact specTakeHead_out _ _ _ _
theorem specTakeHead {s : ByteArray} (hs : s.size ≤ 1099511627776) (a : Nat) (ha : a < s.size) : Ev (fun k => spec_l2TakeHead.f k s (a : Int)) (headAt s a) := by
  have tail := specTakeHead_tail hs a ha
  obtain ⟨eb, em, ed⟩ := byte_parts (byteAt_lt s a)
  simp only [spec_l2TakeHead.f, if_neg (show ¬ (a : Int) ≥ (s.size : Int) by omega), if_pos (show (0 : Int) ≤ (a : Int) by omega), if_pos (show (a : Int) < (s.size : Int) by omega), byteAt_eq, eb, em, ed]
  clear eb em ed
  generalize byteAt s a % 32 = t at tail ⊢
  by_cases h24 : t = 24
  · subst h24
    exact Ev.ite_pos rfl (tail 1 rfl)
  · refine Ev.ite_neg (by omega) ?_
    by_cases h25 : t = 25
    · subst h25
      exact Ev.ite_pos rfl (tail 2 rfl)
    · refine Ev.ite_neg (by omega) ?_
      by_cases h26 : t = 26
      · subst h26
        exact Ev.ite_pos rfl (tail 4 rfl)
      · refine Ev.ite_neg (by omega) ?_
        exact tail 0 (by unfold manyOf; rw [if_neg h24, if_neg h25, if_neg h26])
/-- The two exported ones, at any place. -/
def headOut (s : ByteArray) (a : Int) : Int × Int × Int × Bool := if s.size ≤ 400 ∧ 0 ≤ a ∧ a < s.size then headAt s a.toNat else (0, 0, 0, false)
theorem takeHead_both (s : ByteArray) (a : Int) (hs : s.size ≤ 140737488355328) : Ev (fun k => spec_TakeHead.f k s a) (headOut s a) ∧ Ev (fun k => impl_TakeHead.f k s a) (headOut s a) := by
  unfold headOut
  simp only [spec_TakeHead.f, impl_TakeHead.f]
  by_cases h1 : (s.size : Int) > 400
  · rw [if_neg (by omega)]
    exact ⟨Ev.ite_pos h1 (Ev.now _), Ev.ite_pos h1 (Ev.now _)⟩
  · by_cases h2 : a < 0 ∨ a ≥ s.size
    · rw [if_neg (by omega)]
      constructor
      · refine Ev.ite_neg h1 ?_
        by_cases h3 : a < 0
        · exact Ev.ite_pos h3 (Ev.now _)
        · exact Ev.ite_neg h3 (Ev.ite_pos (by omega) (Ev.now _))
      · refine Ev.ite_neg h1 ?_
        have ew : wrap64 ((s.size : Int) - 1) = (s.size : Int) - 1 := w64 (by omega) (by omega)
        have : Ev (fun k => impl_takeHead.f k s a) (0, 0, 0, false) := by
          simp only [impl_takeHead.f, ew, implWithin, Option.bind_some]
          exact Ev.ite_neg (by simp; omega) (Ev.now _)
        exact Ev.bind this (Ev.now _)
    · rw [if_pos (by omega)]
      obtain ⟨n, rfl⟩ := Int.eq_ofNat_of_zero_le (show 0 ≤ a by omega)
      rw [Int.toNat_natCast]
      constructor
      · exact Ev.ite_neg h1 (Ev.ite_neg (by omega) (Ev.ite_neg (by omega) (Ev.bind (specTakeHead (by omega) n (by omega)) (Ev.now _))))
      · exact Ev.ite_neg h1 (Ev.bind (implTakeHead (by omega) n (by omega)) (Ev.now _))
theorem FnExactTakeHead : Go.Proofs.Ytkljbkminihlbaa.GoalFnExactTakeHead.Goal := by
  intro s a hs h
  refine Ev.rounds ?_
  obtain ⟨x, y⟩ := takeHead_both s a (by omega)
  simp only [laws_FnExactTakeHead.f]
  refine Ev.ite (fun _ => Ev.now _) fun hsz => ?_
  refine Ev.bind x (Ev.bind y ?_)
  simp
  exact Ev.now _

end Go.Proofs.Ytkljbkminihlbaa.Pure
