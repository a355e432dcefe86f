import Derived.Test.YtaffjcaohbkmoaaWWords
import Derived.Laws.BitsLemmas
namespace Go.Proofs.Ytaffjcaohbkmoaa.Plain
open Go.RowKit Go.Proofs.YtaffjcaohbkmoaaW.PrintWords
theorem wf_u8 {a : Int} (h : (Lit.int .u8 a).wf = true) : 0 ≤ a ∧ a ≤ 255 := by
  simp [Lit.wf, IntKind.min, IntKind.max, IntKind.signed, IntKind.bits] at h
  omega
theorem w64 {x : Int} (h0 : -9223372036854775808 ≤ x) (h1 : x ≤ 9223372036854775807) : wrap64 x = x := by unfold wrap64; omega
theorem w64_bd (x : Int) : -9223372036854775808 ≤ wrap64 x ∧ wrap64 x ≤ 9223372036854775807 := by unfold wrap64; omega
theorem Ev.ite_pos {α : Type} {c : Prop} [Decidable c] {g f : Nat → Option α} {r : α} (h : c) (k : Ev g r) : Ev (fun n => if c then g n else f n) r := by
  simpa only [if_pos h] using k
theorem Ev.ite_neg {α : Type} {c : Prop} [Decidable c] {g f : Nat → Option α} {r : α} (h : ¬ c) (k : Ev f r) : Ev (fun n => if c then g n else f n) r := by
  simpa only [if_neg h] using k
theorem Ev.ite {α : Type} {c : Prop} [Decidable c] {g f : Nat → Option α} {r : α} (h : c → Ev g r) (k : ¬ c → Ev f r) : Ev (fun n => if c then g n else f n) r := by
  by_cases hc : c
  · exact Ev.ite_pos hc (h hc)
  · exact Ev.ite_neg hc (k hc)
theorem Ev.some_bind {α β : Type} {a : α} {f : Nat → α → Option β} {r : β} (k : Ev (fun n => f n a) r) : Ev (fun n => (some a).bind (f n)) r := k
theorem Ev.opt_bind {α β : Type} {g : Option α} {a : α} {f : Nat → α → Option β} {r : β} (h : g = some a) (k : Ev (fun n => f n a) r) : Ev (fun n => g.bind (f n)) r := by
  subst h; exact k
theorem Ev.now' {α : Type} {r q : α} (h : r = q) : Ev (fun _ => some r) q := by subst h; exact Ev.now _
theorem Ev.uniq {α : Type} {g : Nat → Option α} {r q : α} (h : Ev g r) (k : Ev g q) : r = q := by
  obtain ⟨K, h⟩ := h
  obtain ⟨K', k⟩ := k
  have h1 := h (max K K') (by omega)
  have h2 := k (max K K') (by omega)
  rw [h1] at h2
  exact Option.some.inj h2
theorem i64_wraps (n : Int) (h0 : 0 ≤ n) (h1 : n < 2 ^ 63) : IntKind.i64.wrap n = n := by rw [IntKind.wrap_i64]; omega
theorem bits_xor_nat (k : IntKind) (j : Nat) (hj : j ≤ k.bits) (hk : ∀ n : Int, 0 ≤ n → n < 2 ^ j → k.wrap n = n) (a b : Nat) (ha : a < 2 ^ j) (hb : b < 2 ^ j) :
    Go.bits .xor k a b = ((a ^^^ b : Nat) : Int) := by
  have hp : 2 ^ j ≤ 2 ^ k.bits := Nat.pow_le_pow_right (by decide) hj
  have ha' : a % 2 ^ k.bits = a := Nat.mod_eq_of_lt (Nat.lt_of_lt_of_le ha hp)
  have hb' : b % 2 ^ k.bits = b := Nat.mod_eq_of_lt (Nat.lt_of_lt_of_le hb hp)
  simp only [Go.bits, BitVec.ofInt_natCast, BitVec.toNat_xor, BitVec.toNat_ofNat, ha', hb']
  exact hk _ (Int.natCast_nonneg _) (by exact_mod_cast Nat.xor_lt_two_pow ha hb)
theorem xor_i64 (a b : Nat) (ha : a < 4294967296) (hb : b < 4294967296) : Go.bits .xor .i64 (a : Int) (b : Int) = ((a ^^^ b : Nat) : Int) :=
  bits_xor_nat .i64 63 (by decide) i64_wraps a b (by omega) (by omega)
def crcRound (x : Nat) : Nat := if 65535 < 2 * x then (2 * x) ^^^ 69665 else 2 * x
def crcRounds : Nat → Nat → Nat
  | 0, x => x
  | n + 1, x => crcRounds n (crcRound x)
def crcByte (x b : Nat) : Nat := crcRounds 8 (x ^^^ (b * 256))
theorem xor_poly (y : Nat) (h0 : 65536 ≤ y) (h1 : y < 131072) : y ^^^ 69665 < 65536 := by
  have e : (65536 : Nat) = 2 ^ 16 := rfl
  rw [e]
  refine Nat.lt_pow_two_of_testBit _ fun i hi => ?_
  rw [Nat.testBit_xor]
  rcases Nat.lt_or_ge 16 i with h | h
  · rw [Nat.testBit_lt_two_pow (Nat.lt_of_lt_of_le (show y < 2 ^ 17 by omega) (Nat.pow_le_pow_right (by omega) (by omega))), Nat.testBit_lt_two_pow (Nat.lt_of_lt_of_le (show 69665 < 2 ^ 17 by omega) (Nat.pow_le_pow_right (by omega) (by omega)))]
    rfl
  · obtain rfl : i = 16 := by omega
    have : y.testBit 16 = true := by
      rw [Nat.testBit_eq_decide_div_mod_eq]
      simp
      omega
    rw [this]
    decide
theorem crcRound_lt {x : Nat} (h : x < 65536) : crcRound x < 65536 := by
  unfold crcRound
  split
  · exact xor_poly _ (by omega) (by omega)
  · omega
theorem crcRounds_lt (n : Nat) : ∀ {x : Nat}, x < 65536 → crcRounds n x < 65536 := by
  induction n with
  | zero => intro x h; simpa only [crcRounds] using h
  | succ n ih => intro x h; simpa only [crcRounds] using ih (crcRound_lt h)
theorem xor_byte_lt {x b : Nat} (h : x < 65536) (hb : b < 256) : x ^^^ (b * 256) < 65536 := Nat.xor_lt_two_pow (n := 16) (by omega) (by omega)
theorem crcByte_lt {x b : Nat} (h : x < 65536) (hb : b < 256) : crcByte x b < 65536 := by
  unfold crcByte
  exact crcRounds_lt 8 (xor_byte_lt h hb)
def crcOver (x : Nat) (l : List UInt8) : Nat := l.foldl (fun y b => crcByte y b.toNat) x
theorem crcOver_lt (l : List UInt8) : ∀ {x : Nat}, x < 65536 → crcOver x l < 65536 := by
  induction l with
  | nil => intro x h; simpa only [crcOver, List.foldl_nil] using h
  | cons b l ih =>
    intro x h
    have := ih (crcByte_lt h b.toNat_lt)
    simpa only [crcOver, List.foldl_cons] using this
theorem xor_twice (a b : Nat) : (a ^^^ b) ^^^ b = a := by rw [Nat.xor_assoc, Nat.xor_self, Nat.xor_zero]
theorem xor_twice' (a b : Nat) : a ^^^ (a ^^^ b) = b := by rw [← Nat.xor_assoc, Nat.xor_self, Nat.zero_xor]
theorem crcRound_inj {x y : Nat} (_hx : x < 65536) (_hy : y < 65536) (h : crcRound x = crcRound y) : x = y := by
  unfold crcRound at h
  have odd : ∀ z : Nat, ((2 * z) ^^^ 69665).testBit 0 = true := fun z => by
    rw [Nat.testBit_xor]
    simp [Nat.testBit_zero]
  have even : ∀ z : Nat, (2 * z).testBit 0 = false := fun z => by simp [Nat.testBit_zero]
  split at h <;> split at h
  · have : ((2 * x) ^^^ 69665) ^^^ 69665 = ((2 * y) ^^^ 69665) ^^^ 69665 := by rw [h]
    rw [xor_twice, xor_twice] at this
    omega
  · have a := odd x
    rw [h, even y] at a
    cases a
  · have a := odd y
    rw [← h, even x] at a
    cases a
  · omega
theorem crcRounds_inj (n : Nat) : ∀ {x y : Nat}, x < 65536 → y < 65536 → crcRounds n x = crcRounds n y → x = y := by
  induction n with
  | zero => intro x y _ _ h; simpa only [crcRounds] using h
  | succ n ih =>
    intro x y hx hy h
    simp only [crcRounds] at h
    exact crcRound_inj hx hy (ih (crcRound_lt hx) (crcRound_lt hy) h)
theorem crcByte_inj_left {x y b : Nat} (hx : x < 65536) (hy : y < 65536) (hb : b < 256) (h : crcByte x b = crcByte y b) : x = y := by
  unfold crcByte at h
  have := crcRounds_inj 8 (xor_byte_lt hx hb) (xor_byte_lt hy hb) h
  have h2 : (x ^^^ (b * 256)) ^^^ (b * 256) = (y ^^^ (b * 256)) ^^^ (b * 256) := by rw [this]
  rwa [xor_twice, xor_twice] at h2
theorem crcByte_inj_right {x b c : Nat} (hx : x < 65536) (hb : b < 256) (hc : c < 256) (h : crcByte x b = crcByte x c) : b = c := by
  unfold crcByte at h
  have := crcRounds_inj 8 (xor_byte_lt hx hb) (xor_byte_lt hx hc) h
  have h2 : x ^^^ (x ^^^ (b * 256)) = x ^^^ (x ^^^ (c * 256)) := by rw [this]
  rw [xor_twice', xor_twice'] at h2
  omega
theorem crcOver_inj (l : List UInt8) : ∀ {x y : Nat}, x < 65536 → y < 65536 → crcOver x l = crcOver y l → x = y := by
  induction l with
  | nil => intro x y _ _ h; simpa only [crcOver, List.foldl_nil] using h
  | cons b l ih =>
    intro x y hx hy h
    simp only [crcOver, List.foldl_cons] at h
    exact crcByte_inj_left hx hy b.toNat_lt (ih (crcByte_lt hx b.toNat_lt) (crcByte_lt hy b.toNat_lt) h)
theorem strOfNums_append (a b : List Int) : strOfNums (a ++ b) = strOfNums a ++ strOfNums b := by
  unfold strOfNums
  apply ByteArray.ext
  simp
theorem strOfNums_size (a : List Int) : (strOfNums a).size = a.length := by
  unfold strOfNums
  simp [ByteArray.size]
theorem strOfNums_toList (a : List Int) : (strOfNums a).toList = a.map fun n => UInt8.ofNat n.toNat := by
  rw [ByteArray.toList_eq]; rfl
theorem str_ext {s t : ByteArray} (h : s.data.toList = t.data.toList) : s = t := ByteArray.ext (Array.toList_inj.mp h)
theorem size_data (s : ByteArray) : s.data.toList.length = s.size := rfl
theorem rd_eq (l : List Int) (i : Nat) (h : i < l.length) : rd l (i : Int) = l[i] := by
  simp [rd, List.getD_eq_getElem?_getD, List.getElem?_eq_getElem h]
end Go.Proofs.Ytaffjcaohbkmoaa.Plain
