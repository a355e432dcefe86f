/- What the printed program answers at this law is true, for every argument. -/
import Derived.Test.YtjafmdilgpnbaaaPFnExactReadSdnvsx3
import Derived.Test.YtjafmdilgpnbaaaPlain
set_option linter.unusedVariables false
set_option linter.unusedSimpArgs false
namespace Go.Proofs.Ytjafmdilgpnbaaa.Pure
open Go.RowKit Go.Proofs.Ytjafmdilgpnbaaa.PFnExactReadSdnvs Go.Proofs.YtjafmdilgpnbaaaW.PrintWords Go.Proofs.YtjafmdilgpnbaaaW.PrintLast Go.Proofs.Ytjafmdilgpnbaaa.Plain

theorem specIn (a b c : Int) : spec_l1In.f a b c = some (decide (b ≤ a ∧ a ≤ c)) := by
  unfold spec_l1In.f
  by_cases h : b ≤ a <;> simp [h]
theorem specValue (a : Int) : spec_l1Value.f a = some (decide (0 ≤ a ∧ a ≤ 1000000000)) := by
  simp [spec_l1Value.f, specIn]
theorem implWithin (a b c : Int) : impl_within.f a b c = some (decide (b ≤ a ∧ a ≤ c)) := by
  unfold impl_within.f
  by_cases h : b ≤ a <;> simp [h]
/-- One round of the program: the byte b, the number with it m. -/
theorem implTake_round {s : ByteArray} (hs : s.size ≤ 1048576) {n i m : Nat} (hi : i < s.size) (hn : n ≤ 1000000000) (hm : (128 : Int) * n + bt s (i : Int) % 128 = m) {r : Int × Int × Bool}
    (h : Ev (fun k => if ((m : Int) > 1000000000) then some ((0 : Int), (0 : Int), false) else (if bt s (i : Int) < 128 then some ((m : Int), ((i + 1 : Nat) : Int), true) else impl_TakeSdnv.l0 k s (m : Int) ((i + 1 : Nat) : Int))) r) :
    Ev (fun k => impl_TakeSdnv.l0 k s (n : Int) (i : Int)) r := by
  have hb := bt_range s (i : Int)
  have e127 : wrap64 (Go.bits .and .u8 (bt s (i : Int)) 127) = bt s (i : Int) % 128 := by
    rw [and127_u8 hb.1 hb.2, w64 (by omega) (by omega)]
  have esum : wrap64 (wrap64 (128 * (n : Int)) + bt s (i : Int) % 128) = m := by
    rw [w64 (x := 128 * (n : Int)) (by omega) (by omega), w64 (by omega) (by omega), hm]
  have ew : wrap64 ((i : Int) + 1) = ((i + 1 : Nat) : Int) := by rw [w64 (by omega) (by omega)]; omega
  refine Ev.step (fun k => by rw [impl_TakeSdnv.l0]) ?_
  refine Ev.ite_pos (by omega) (Ev.ite_pos (by omega) ?_)
  rw [e127, esum, ew]
  exact h
theorem specTake_end {s : ByteArray} {a n i : Nat} (ha : a ≤ 1048576) (h : s.size ≤ i ∨ a + 5 ≤ i) : Ev (fun k => spec_l1Take.l0 k s (a : Int) (n : Int) (i : Int)) (0, 0, false) := by
  have e5 : wrap64 ((a : Int) + 5) = (a : Int) + 5 := w64 (by omega) (by omega)
  refine Ev.step (fun k => by rw [spec_l1Take.l0]) ?_
  refine Ev.ite (fun h1 => ?_) fun h1 => ?_
  · refine Ev.step (fun k => by rw [spec_l1Take.j1]) ?_
    refine Ev.ite_neg ?_ (Ev.now _)
    rw [e5]
    simp
    omega
  · refine Ev.step (fun k => by rw [spec_l1Take.j1]) ?_
    exact Ev.ite_neg (by simp) (Ev.now _)
/-- One round of the reference. -/
theorem specTake_round {s : ByteArray} (hs : s.size ≤ 1048576) {a n i m : Nat} (ha : a ≤ 1048576) (hi : i < s.size) (h5 : i < a + 5) (hf : i = a → bt s (i : Int) ≠ 128) (hn : n ≤ 34359738367) (hm : (128 : Int) * n + bt s (i : Int) % 128 = m) {r : Int × Int × Bool}
    (h : Ev (fun k => if bt s (i : Int) < 128 then (if (0 ≤ (m : Int) ∧ (m : Int) ≤ 1000000000) then some ((m : Int), ((i + 1 : Nat) : Int), true) else some ((0 : Int), (0 : Int), false)) else spec_l1Take.l0 k s (a : Int) (m : Int) ((i + 1 : Nat) : Int)) r) :
    Ev (fun k => spec_l1Take.l0 k s (a : Int) (n : Int) (i : Int)) r := by
  have hb := bt_range s (i : Int)
  have e5 : wrap64 ((a : Int) + 5) = (a : Int) + 5 := w64 (by omega) (by omega)
  have hc : decide ((i : Int) < (a : Int) + 5) = true := decide_eq_true (by omega)
  have hl : (i : Int) < (s.size : Int) := by omega
  have hz : (0 : Int) ≤ (i : Int) := by omega
  have h128 : (i : Int) = (a : Int) → (bt s (i : Int) == 128) = false := fun he => by simpa using hf (by omega)
  have e127 : wrap64 (Go.bits .and .u8 (bt s (i : Int)) 127) = bt s (i : Int) % 128 := by
    rw [and127_u8 hb.1 hb.2, w64 (by omega) (by omega)]
  have eor : Go.bits .or .i64 (wrap64 ((n : Int) * 128)) (bt s (i : Int) % 128) = m := by
    rw [w64 (by omega) (by omega), or_low7_i64 (by omega) (by omega) (by omega) (by omega) (by omega)]
    omega
  have ew : wrap64 ((i : Int) + 1) = ((i + 1 : Nat) : Int) := by rw [w64 (by omega) (by omega)]; omega
  have go : Ev (fun k => spec_l1Take.j2 k s (a : Int) (n : Int) (i : Int) false) r := by
    refine Ev.step (fun k => by rw [spec_l1Take.j2]) ?_
    refine Ev.ite_neg (by simp) (Ev.ite_pos hz (Ev.ite_pos hl ?_))
    rw [e127, eor, ew, specValue]
    simp only [Option.bind_some, decide_eq_true_eq]
    exact h
  refine Ev.step (fun k => by rw [spec_l1Take.l0]) ?_
  refine Ev.ite_pos hl ?_
  refine Ev.step (fun k => by rw [spec_l1Take.j1]) ?_
  rw [e5]
  refine Ev.ite_pos hc ?_
  refine Ev.ite (fun he => ?_) fun _ => go
  refine Ev.ite_pos hz (Ev.ite_pos hl ?_)
  rw [h128 he]
  exact go
/-- The reference behind a number that is too great already: it ends with nothing. -/
theorem takeOver_go (s : ByteArray) (hs : s.size ≤ 1048576) (a : Nat) (ha : a ≤ 1048576) (d : Nat) : ∀ (n i : Nat), a < i → a + 5 - i = d → i ≤ a + 5 → 1000000000 < n → (n + 1) * 128 ^ d ≤ 34359738368 →
    Ev (fun k => spec_l1Take.l0 k s (a : Int) (n : Int) (i : Int)) (0, 0, false) := by
  induction d with
  | zero => intro n i h0 h1 h2 h3 h4; exact specTake_end ha (.inr (by omega))
  | succ d ih =>
    intro n i h0 h1 h2 h3 h4
    by_cases hi : i < s.size
    · have hb := bt_range s (i : Int)
      obtain ⟨m, hm⟩ := Int.eq_ofNat_of_zero_le (show (0 : Int) ≤ 128 * n + bt s (i : Int) % 128 by omega)
      have hp : (m + 1) * 128 ^ d ≤ 34359738368 := by
        refine Nat.le_trans (Nat.mul_le_mul_right _ (show m + 1 ≤ 128 * (n + 1) by omega)) ?_
        rw [Nat.pow_succ] at h4
        rw [Nat.mul_comm 128 (n + 1), Nat.mul_assoc, Nat.mul_comm 128]
        exact h4
      have hn : n + 1 ≤ 34359738368 := Nat.le_trans (Nat.le_mul_of_pos_right _ (Nat.pow_pos (by omega))) h4
      refine specTake_round hs ha hi (by omega) (fun h => by omega) (by omega) hm ?_
      refine Ev.ite (fun _ => Ev.ite_neg (by omega) (Ev.now _)) fun _ => ?_
      exact ih m (i + 1) (by omega) (by omega) (by omega) (by omega) hp
    · exact specTake_end ha (.inl (by omega))
/-- The numbers are told alike: n so far, behind i - a bytes, the first of which is no 128. -/
theorem takeSdnv_go (s : ByteArray) (hs : s.size ≤ 1048576) (a : Nat) (ha : a < s.size) (hf : bt s (a : Int) ≠ 128) (d : Nat) : ∀ (n i : Nat), a ≤ i → a + 5 - i = d → i ≤ a + 5 → n ≤ 1000000000 → (n + 1) * 128 ^ d ≤ 34359738368 →
    (i = a → n = 0) → (a < i → 128 ^ (i - a - 1) ≤ n) →
    ∃ r : Int × Int × Bool, Ev (fun k => spec_l1Take.l0 k s (a : Int) (n : Int) (i : Int)) r ∧ Ev (fun k => impl_TakeSdnv.l0 k s (n : Int) (i : Int)) r ∧ (r.2.2 = true → (i : Int) < r.2.1 ∧ r.2.1 ≤ s.size ∧ 0 ≤ r.1 ∧ r.1 ≤ 1000000000) := by
  induction d with
  | zero =>
    intro n i h0 hd h2 hn h4 h5 h6
    refine ⟨(0, 0, false), specTake_end (by omega) (.inr (by omega)), ?_, fun h => by cases h⟩
    by_cases hi : i < s.size
    · have hb := bt_range s (i : Int)
      obtain ⟨m, hm⟩ := Int.eq_ofNat_of_zero_le (show (0 : Int) ≤ 128 * n + bt s (i : Int) % 128 by omega)
      have h7 := h6 (by omega)
      rw [show i - a - 1 = 4 by omega] at h7
      exact implTake_round hs hi hn hm (Ev.ite_pos (by omega) (Ev.now _))
    · refine Ev.step (fun k => by rw [impl_TakeSdnv.l0]) ?_
      exact Ev.ite_neg (by omega) (Ev.now _)
  | succ d ih =>
    intro n i h0 hd h2 hn h4 h5 h6
    by_cases hi : i < s.size
    · have hb := bt_range s (i : Int)
      obtain ⟨m, hm⟩ := Int.eq_ofNat_of_zero_le (show (0 : Int) ≤ 128 * n + bt s (i : Int) % 128 by omega)
      have hp : (m + 1) * 128 ^ d ≤ 34359738368 := by
        refine Nat.le_trans (Nat.mul_le_mul_right _ (show m + 1 ≤ 128 * (n + 1) by omega)) ?_
        rw [Nat.pow_succ] at h4
        rw [Nat.mul_comm 128 (n + 1), Nat.mul_assoc, Nat.mul_comm 128]
        exact h4
      have hfi : i = a → bt s (i : Int) ≠ 128 := fun h => by rw [h]; exact hf
      have sr : ∀ {r}, _ → _ := fun {r} => specTake_round (r := r) hs (by omega) hi (by omega : i < a + 5) hfi (by omega) hm
      have ir : ∀ {r}, _ → _ := fun {r} => implTake_round (r := r) hs hi hn hm
      by_cases hsm : bt s (i : Int) < 128
      · by_cases hbig : (m : Int) > 1000000000
        · exact ⟨(0, 0, false), sr (Ev.ite_pos hsm (Ev.ite_neg (by omega) (Ev.now _))), ir (Ev.ite_pos hbig (Ev.now _)), fun h => by cases h⟩
        · refine ⟨_, sr (Ev.ite_pos hsm (Ev.ite_pos (by omega) (Ev.now _))), ir (Ev.ite_neg hbig (Ev.ite_pos hsm (Ev.now _))), fun _ => ?_⟩
          simp only
          omega
      · by_cases hbig : (m : Int) > 1000000000
        · exact ⟨(0, 0, false), sr (Ev.ite_neg hsm (takeOver_go s hs a (by omega) d m (i + 1) (by omega) (by omega) (by omega) (by omega) hp)), ir (Ev.ite_pos hbig (Ev.now _)), fun h => by cases h⟩
        · have hpos : 128 ^ (i + 1 - a - 1) ≤ m := by
            by_cases hia : i = a
            · subst hia
              have := h5 rfl
              have h8 := hfi rfl
              rw [show i + 1 - i - 1 = 0 by omega, Nat.pow_zero]
              omega
            · have := h6 (by omega)
              rw [show i + 1 - a - 1 = (i - a - 1) + 1 by omega, Nat.pow_succ]
              omega
          obtain ⟨r, x, y, z⟩ := ih m (i + 1) (by omega) (by omega) (by omega) (by omega) hp (fun h => by omega) (fun _ => hpos)
          exact ⟨r, sr (Ev.ite_neg hsm x), ir (Ev.ite_neg hbig (Ev.ite_neg hsm y)), fun h => by have := z h; omega⟩
    · refine ⟨(0, 0, false), specTake_end (by omega) (.inl (by omega)), ?_, fun h => by cases h⟩
      refine Ev.step (fun k => by rw [impl_TakeSdnv.l0]) ?_
      exact Ev.ite_neg (by omega) (Ev.now _)
/-- A place in a text of at most 400 bytes. -/
theorem take_both (s : ByteArray) (hs : s.size ≤ 400) (a : Nat) (ha : a < s.size) :
    ∃ r : Int × Int × Bool, Ev (fun k => spec_l1Take.f k s (a : Int)) r ∧ Ev (fun k => impl_TakeSdnv.f k s (a : Int)) r ∧ (r.2.2 = true → (a : Int) < r.2.1 ∧ r.2.1 ≤ s.size ∧ 0 ≤ r.1 ∧ r.1 ≤ 1000000000) := by
  have ew : wrap64 ((s.size : Int) - 1) = (s.size : Int) - 1 := w64 (by omega) (by omega)
  have hin : (0 ≤ (a : Int) ∧ (a : Int) ≤ (s.size : Int) - 1) := by omega
  simp only [spec_l1Take.f, impl_TakeSdnv.f, ew, implWithin, Option.bind_some, hin, and_self, decide_true, if_true, if_neg (show ¬ (s.size : Int) > 400 by omega), if_pos (show (0 : Int) ≤ (a : Int) by omega), if_pos (show (a : Int) < (s.size : Int) by omega)]
  by_cases hf : bt s (a : Int) = 128
  · refine ⟨(0, 0, false), ?_, ?_, fun h => by cases h⟩
    · refine Ev.step (fun k => by rw [spec_l1Take.l0]) ?_
      refine Ev.ite_pos (by omega) ?_
      refine Ev.step (fun k => by rw [spec_l1Take.j1]) ?_
      have e5 : wrap64 ((a : Int) + 5) = (a : Int) + 5 := w64 (by omega) (by omega)
      refine Ev.ite_pos (by rw [e5]; simp; omega) (Ev.ite_pos rfl (Ev.ite_pos (by omega) (Ev.ite_pos (by omega) ?_)))
      refine Ev.step (fun k => by rw [spec_l1Take.j2]) ?_
      exact Ev.ite_pos (by simpa using hf) (Ev.now _)
    · refine Ev.step (fun k => by rw [impl_TakeSdnv.j0]) ?_
      exact Ev.ite_pos (by simpa using hf) (Ev.now _)
  · obtain ⟨r, x, y, z⟩ := takeSdnv_go s (by omega) a ha hf 5 0 a (by omega) (by omega) (by omega) (by omega) (by decide) (fun _ => rfl) (fun h => by omega)
    refine ⟨r, x, ?_, z⟩
    refine Ev.step (fun k => by rw [impl_TakeSdnv.j0]) ?_
    exact Ev.ite_neg (by simpa using hf) y
theorem eqIntS_go (l : List Int) (hl : l.length ≤ 4611686018427387904) (d : Nat) : ∀ i : Int, 0 ≤ i → (l.length : Int) - i = d → Ev (fun k => laws_eqIntS.l0 k l l i) true := by
  induction d with
  | zero =>
    intro i h0 hd
    refine Ev.step (fun k => by rw [laws_eqIntS.l0]) ?_
    simp only [if_neg (show ¬ i < (l.length : Int) by omega)]
    exact Ev.now _
  | succ d ih =>
    intro i h0 hd
    refine Ev.step (fun k => by rw [laws_eqIntS.l0]) ?_
    simp only [if_pos (show i < (l.length : Int) by omega), if_pos h0, if_true, w64 (show -9223372036854775808 ≤ i + 1 by omega) (show i + 1 ≤ 9223372036854775807 by omega)]
    exact ih (i + 1) (by omega) (by omega)
theorem eqIntS_self (l : List Int) (hl : l.length ≤ 4611686018427387904) : Ev (fun k => laws_eqIntS.f k l l) true := by
  simp only [laws_eqIntS.f, if_true]
  exact eqIntS_go l hl l.length 0 (by omega) (by omega)
theorem markIntS_go (n : Nat) (hn : n ≤ 4611686018427387904) (d : Nat) : ∀ (l : List Int) (i : Nat), l.length = n → i ≤ n → n - i = d → (∀ j, j < i → rd l (j : Int) = 1 + j) →
    ∃ l' : List Int, l'.length = n ∧ (∀ j, j < n → rd l' (j : Int) = 1 + j) ∧ Ev (fun k => laws_markIntS.l0 k l (1 + (i : Int)) (i : Int)) (1 + (n : Int), l') := by
  induction d with
  | zero =>
    intro l i h1 h2 hd hj
    obtain rfl : i = n := by omega
    refine ⟨l, h1, hj, ?_⟩
    refine Ev.step (fun k => by rw [laws_markIntS.l0]) ?_
    simp only [if_neg (show ¬ (i : Int) < (l.length : Int) by omega)]
    exact Ev.now _
  | succ d ih =>
    intro l i h1 h2 hd hj
    obtain ⟨l', a, b, c⟩ := ih (l.set i (1 + i)) (i + 1) (by simpa using h1) (by omega) (by omega) (fun j hj' => by
      rcases Nat.lt_or_ge j i with h | h
      · rw [rd_set_ne _ _ _ (by omega)]; exact hj j h
      · obtain rfl : j = i := by omega
        exact rd_set_same l j (by omega) _)
    refine ⟨l', a, b, ?_⟩
    refine Ev.step (fun k => by rw [laws_markIntS.l0]) ?_
    simp only [if_pos (show (i : Int) < (l.length : Int) by omega), if_pos (show (0 : Int) ≤ (i : Int) by omega), Int.toNat_natCast, w64 (show -9223372036854775808 ≤ (i : Int) + 1 by omega) (show (i : Int) + 1 ≤ 9223372036854775807 by omega), w64 (show -9223372036854775808 ≤ 1 + (i : Int) + 1 by omega) (show 1 + (i : Int) + 1 ≤ 9223372036854775807 by omega)]
    have e : 1 + (i : Int) + 1 = 1 + ((i + 1 : Nat) : Int) := by omega
    rw [e]
    exact c
theorem heldIntS_go (n : Nat) (hn : n ≤ 4611686018427387904) (l : List Int) (hl : l.length = n) (hj : ∀ j, j < n → rd l (j : Int) = 1 + j) (d : Nat) : ∀ (i : Nat), i ≤ n → n - i = d →
    Ev (fun k => laws_heldIntS.l0 k l (1 + (i : Int)) (i : Int)) (1 + (n : Int)) := by
  induction d with
  | zero =>
    intro i h2 hd
    obtain rfl : i = n := by omega
    refine Ev.step (fun k => by rw [laws_heldIntS.l0]) ?_
    simp only [if_neg (show ¬ (i : Int) < (l.length : Int) by omega)]
    exact Ev.now _
  | succ d ih =>
    intro i h2 hd
    have c := ih (i + 1) (by omega) (by omega)
    refine Ev.step (fun k => by rw [laws_heldIntS.l0]) ?_
    simp only [if_pos (show (i : Int) < (l.length : Int) by omega), if_pos (show (0 : Int) ≤ (i : Int) by omega), hj i (by omega), if_true, w64 (show -9223372036854775808 ≤ (i : Int) + 1 by omega) (show (i : Int) + 1 ≤ 9223372036854775807 by omega), w64 (show -9223372036854775808 ≤ 1 + (i : Int) + 1 by omega) (show 1 + (i : Int) + 1 ≤ 9223372036854775807 by omega)]
    have e : 1 + (i : Int) + 1 = 1 + ((i + 1 : Nat) : Int) := by omega
    rw [e]
    exact c
theorem markIntS_held (l : List Int) (hl : l.length ≤ 4611686018427387904) : ∃ l' : List Int, Ev (fun k => laws_markIntS.f k l 1) (1 + (l.length : Int), l') ∧ Ev (fun k => laws_heldIntS.f k l' 1) (1 + (l.length : Int)) := by
  obtain ⟨l', a, b, c⟩ := markIntS_go l.length hl l.length l 0 rfl (by omega) (by omega) (fun j hj => by omega)
  refine ⟨l', ?_, ?_⟩
  · simp only [laws_markIntS.f]; exact c
  · simp only [laws_heldIntS.f]; exact heldIntS_go l.length hl l' a b l.length 0 (by omega) (by omega)
/-- The two readers: the program stops at the forty-first number, the reference tells so at the end. -/
theorem readSdnvs_go (s : ByteArray) (hs : s.size ≤ 400) (d : Nat) : ∀ (i : Nat) (o : List Int), i ≤ s.size → s.size - i ≤ d → o.length ≤ i →
    ∃ u : List Int × Bool, u.1.length ≤ 400 ∧ Ev (fun k => spec_ReadSdnvs.l0 k s o (i : Int)) u ∧ (o.length ≤ 40 → Ev (fun k => impl_ReadSdnvs.l0 k s o (i : Int)) u) ∧ (40 < o.length → u = ([], false)) := by
  induction d with
  | zero =>
    intro i o h0 hd ho
    by_cases h : o.length ≤ 40
    · refine ⟨(o, true), by simp only; omega, ?_, fun _ => ?_, fun h' => by omega⟩
      · refine Ev.step (fun k => by rw [spec_ReadSdnvs.l0]) ?_
        exact Ev.ite_neg (by omega) (Ev.ite_neg (by omega) (Ev.now _))
      · refine Ev.step (fun k => by rw [impl_ReadSdnvs.l0]) ?_
        exact Ev.ite_neg (by omega) (Ev.now _)
    · refine ⟨([], false), by simp, ?_, fun h' => absurd h' h, fun _ => rfl⟩
      refine Ev.step (fun k => by rw [spec_ReadSdnvs.l0]) ?_
      exact Ev.ite_neg (by omega) (Ev.ite_pos (by omega) (Ev.now _))
  | succ d ih =>
    intro i o h0 hd ho
    by_cases hi : i < s.size
    · obtain ⟨r, x, y, z⟩ := take_both s hs i hi
      have hp : (i : Int) < (s.size : Int) := by omega
      have hlim : o.length < 17592186044416 := by omega
      by_cases hr : r.2.2 = true
      · have hz := z hr
        obtain ⟨e, he⟩ := Int.eq_ofNat_of_zero_le (show 0 ≤ r.2.1 by omega)
        have he2 : i < e ∧ e ≤ s.size := by omega
        obtain ⟨u, hu, a, b, c⟩ := ih e (o ++ [r.1]) (by omega) (by omega) (by simp; omega)
        have sp : Ev (fun k => spec_ReadSdnvs.l0 k s o (i : Int)) u := by
          refine Ev.step (fun k => by rw [spec_ReadSdnvs.l0]) ?_
          refine Ev.ite_pos hp (Ev.bind x ?_)
          refine Ev.ite_pos hr (Ev.ite_pos hlim ?_)
          rw [he]; exact a
        refine ⟨u, hu, sp, fun h => ?_, fun h => c (by simp; omega)⟩
        refine Ev.step (fun k => by rw [impl_ReadSdnvs.l0]) ?_
        refine Ev.ite_pos hp (Ev.bind y ?_)
        refine Ev.ite_pos hr ?_
        by_cases h40 : o.length = 40
        · refine Ev.ite_pos (by omega) ?_
          rw [c (by simp; omega)]
          exact Ev.now _
        · refine Ev.ite_neg (by omega) (Ev.ite_pos hlim ?_)
          rw [he]
          exact b (by simp; omega)
      · refine ⟨([], false), by simp, ?_, fun _ => ?_, fun _ => rfl⟩
        · refine Ev.step (fun k => by rw [spec_ReadSdnvs.l0]) ?_
          exact Ev.ite_pos hp (Ev.bind x (Ev.ite_neg hr (Ev.now _)))
        · refine Ev.step (fun k => by rw [impl_ReadSdnvs.l0]) ?_
          exact Ev.ite_pos hp (Ev.bind y (Ev.ite_neg hr (Ev.now _)))
    · have := ih i o h0 (by omega) ho
      exact this
theorem readSdnvs_both (s : ByteArray) : ∃ u : List Int × Bool, u.1.length ≤ 400 ∧ Ev (fun k => spec_ReadSdnvs.f k s) u ∧ Ev (fun k => impl_ReadSdnvs.f k s) u := by
  simp only [spec_ReadSdnvs.f, impl_ReadSdnvs.f]
  by_cases h : s.size ≤ 400
  · obtain ⟨u, a, b, c, _⟩ := readSdnvs_go s h s.size 0 [] (by omega) (by omega) (by simp)
    exact ⟨u, a, Ev.ite_neg (by omega) b, Ev.ite_neg (by omega) (c (by simp))⟩
  · exact ⟨([], false), by simp, Ev.ite_pos (by omega) (Ev.now _), Ev.ite_pos (by omega) (Ev.now _)⟩
theorem FnExactReadSdnvs : laws_FnExactReadSdnvs.Pure := by
  intro s hs
  refine Ev.rounds ?_
  obtain ⟨u, hu, a, b⟩ := readSdnvs_both s
  obtain ⟨l', m, h⟩ := markIntS_held u.1 (by omega)
  simp only [laws_FnExactReadSdnvs.f]
  refine Ev.ite (fun _ => Ev.now _) fun hsz => ?_
  refine Ev.bind a (Ev.bind b (Ev.bind (eqIntS_self u.1 (by omega)) ?_))
  simp only [if_true]
  refine Ev.step (fun k => by rw [laws_FnExactReadSdnvs.j0]) ?_
  refine Ev.ite_neg (by simp) ?_
  refine Ev.bind m (Ev.bind h ?_)
  refine Ev.ite_neg (by omega) (Ev.ite_pos rfl ?_)
  refine Ev.bind b (Ev.bind (eqIntS_self u.1 (by omega)) ?_)
  simp only [if_true]
  refine Ev.step (fun k => by rw [laws_FnExactReadSdnvs.j1]) ?_
  refine Ev.ite_neg (by simp) ?_
  refine Ev.bind h ?_
  exact Ev.ite_neg (by omega) (Ev.ite_pos rfl (Ev.now _))

end Go.Proofs.Ytjafmdilgpnbaaa.Pure
