/- What the printed program answers at this law is true, for every argument. -/
import Derived.Test.YtjafmdilgpnbaaaPFnExactTakeSdnvx1
import Derived.Test.YtjafmdilgpnbaaaPlain
set_option linter.unusedVariables false
set_option linter.unusedSimpArgs false
namespace Go.Proofs.Ytjafmdilgpnbaaa.Pure
open Go.RowKit Go.Proofs.Ytjafmdilgpnbaaa.PFnExactTakeSdnv Go.Proofs.YtjafmdilgpnbaaaW.PrintWords Go.Proofs.YtjafmdilgpnbaaaW.PrintLast Go.Proofs.Ytjafmdilgpnbaaa.Plain

theorem specIn (a b c : Int) : spec_l1In.f a b c = some (decide (b ≤ a ∧ a ≤ c)) := by
  unfold spec_l1In.f
  by_cases h : b ≤ a <;> simp [h]
theorem specValue (a : Int) : spec_l1Value.f a = some (decide (0 ≤ a ∧ a ≤ 1000000000)) := by
  simp [spec_l1Value.f, specIn]
theorem implWithin (a b c : Int) : impl_within.f a b c = some (decide (b ≤ a ∧ a ≤ c)) := by
  unfold impl_within.f
  by_cases h : b ≤ a <;> simp [h]
/-- One round of the program: the byte b, the number with it m. -/
theorem implTake_round {s : ByteArray} (hs : s.size ≤ 1048576) {n i m : Nat} (hi : i < s.size) (hn : n ≤ 1000000000) (hm : (128 : Int) * n + bt s (i : Int) % 128 = m) {r : Int × Int × Bool}
    (h : Ev (fun k => if ((m : Int) > 1000000000) then some ((0 : Int), (0 : Int), false) else (if bt s (i : Int) < 128 then some ((m : Int), ((i + 1 : Nat) : Int), true) else impl_TakeSdnv.l0 k s (m : Int) ((i + 1 : Nat) : Int))) r) :
    Ev (fun k => impl_TakeSdnv.l0 k s (n : Int) (i : Int)) r := by
  have hb := bt_range s (i : Int)
  have e127 : wrap64 (Go.bits .and .u8 (bt s (i : Int)) 127) = bt s (i : Int) % 128 := by
    rw [and127_u8 hb.1 hb.2, w64 (by omega) (by omega)]
  have esum : wrap64 (wrap64 (128 * (n : Int)) + bt s (i : Int) % 128) = m := by
    rw [w64 (x := 128 * (n : Int)) (by omega) (by omega), w64 (by omega) (by omega), hm]
  have ew : wrap64 ((i : Int) + 1) = ((i + 1 : Nat) : Int) := by rw [w64 (by omega) (by omega)]; omega
  refine Ev.step (fun k => by rw [impl_TakeSdnv.l0]) ?_
  refine Ev.ite_pos (by omega) (Ev.ite_pos (by omega) ?_)
  rw [e127, esum, ew]
  exact h
theorem specTake_end {s : ByteArray} {a n i : Nat} (ha : a ≤ 1048576) (h : s.size ≤ i ∨ a + 5 ≤ i) : Ev (fun k => spec_l1Take.l0 k s (a : Int) (n : Int) (i : Int)) (0, 0, false) := by
  have e5 : wrap64 ((a : Int) + 5) = (a : Int) + 5 := w64 (by omega) (by omega)
  refine Ev.step (fun k => by rw [spec_l1Take.l0]) ?_
  refine Ev.ite (fun h1 => ?_) fun h1 => ?_
  · refine Ev.step (fun k => by rw [spec_l1Take.j1]) ?_
    refine Ev.ite_neg ?_ (Ev.now _)
    rw [e5]
    simp
    omega
  · refine Ev.step (fun k => by rw [spec_l1Take.j1]) ?_
    exact Ev.ite_neg (by simp) (Ev.now _)
/-- One round of the reference. -/
theorem specTake_round {s : ByteArray} (hs : s.size ≤ 1048576) {a n i m : Nat} (ha : a ≤ 1048576) (hi : i < s.size) (h5 : i < a + 5) (hf : i = a → bt s (i : Int) ≠ 128) (hn : n ≤ 34359738367) (hm : (128 : Int) * n + bt s (i : Int) % 128 = m) {r : Int × Int × Bool}
    (h : Ev (fun k => if bt s (i : Int) < 128 then (if (0 ≤ (m : Int) ∧ (m : Int) ≤ 1000000000) then some ((m : Int), ((i + 1 : Nat) : Int), true) else some ((0 : Int), (0 : Int), false)) else spec_l1Take.l0 k s (a : Int) (m : Int) ((i + 1 : Nat) : Int)) r) :
    Ev (fun k => spec_l1Take.l0 k s (a : Int) (n : Int) (i : Int)) r := by
  have hb := bt_range s (i : Int)
  have e5 : wrap64 ((a : Int) + 5) = (a : Int) + 5 := w64 (by omega) (by omega)
  have hc : decide ((i : Int) < (a : Int) + 5) = true := decide_eq_true (by omega)
  have hl : (i : Int) < (s.size : Int) := by omega
  have hz : (0 : Int) ≤ (i : Int) := by omega
  have h128 : (i : Int) = (a : Int) → (bt s (i : Int) == 128) = false := fun he => by simpa using hf (by omega)
  have e127 : wrap64 (Go.bits .and .u8 (bt s (i : Int)) 127) = bt s (i : Int) % 128 := by
    rw [and127_u8 hb.1 hb.2, w64 (by omega) (by omega)]
  have eor : Go.bits .or .i64 (wrap64 ((n : Int) * 128)) (bt s (i : Int) % 128) = m := by
    rw [w64 (by omega) (by omega), or_low7_i64 (by omega) (by omega) (by omega) (by omega) (by omega)]
    omega
  have ew : wrap64 ((i : Int) + 1) = ((i + 1 : Nat) : Int) := by rw [w64 (by omega) (by omega)]; omega
  have go : Ev (fun k => spec_l1Take.j2 k s (a : Int) (n : Int) (i : Int) false) r := by
    refine Ev.step (fun k => by rw [spec_l1Take.j2]) ?_
    refine Ev.ite_neg (by simp) (Ev.ite_pos hz (Ev.ite_pos hl ?_))
    rw [e127, eor, ew, specValue]
    simp only [Option.bind_some, decide_eq_true_eq]
    exact h
  refine Ev.step (fun k => by rw [spec_l1Take.l0]) ?_
  refine Ev.ite_pos hl ?_
  refine Ev.step (fun k => by rw [spec_l1Take.j1]) ?_
  rw [e5]
  refine Ev.ite_pos hc ?_
  refine Ev.ite (fun he => ?_) fun _ => go
  refine Ev.ite_pos hz (Ev.ite_pos hl ?_)
  rw [h128 he]
  exact go
/-- The reference behind a number that is too great already: it ends with nothing. -/
theorem takeOver_go (s : ByteArray) (hs : s.size ≤ 1048576) (a : Nat) (ha : a ≤ 1048576) (d : Nat) : ∀ (n i : Nat), a < i → a + 5 - i = d → i ≤ a + 5 → 1000000000 < n → (n + 1) * 128 ^ d ≤ 34359738368 →
    Ev (fun k => spec_l1Take.l0 k s (a : Int) (n : Int) (i : Int)) (0, 0, false) := by
  induction d with
  | zero => intro n i h0 h1 h2 h3 h4; exact specTake_end ha (.inr (by omega))
  | succ d ih =>
    intro n i h0 h1 h2 h3 h4
    by_cases hi : i < s.size
    · have hb := bt_range s (i : Int)
      obtain ⟨m, hm⟩ := Int.eq_ofNat_of_zero_le (show (0 : Int) ≤ 128 * n + bt s (i : Int) % 128 by omega)
      have hp : (m + 1) * 128 ^ d ≤ 34359738368 := by
        refine Nat.le_trans (Nat.mul_le_mul_right _ (show m + 1 ≤ 128 * (n + 1) by omega)) ?_
        rw [Nat.pow_succ] at h4
        rw [Nat.mul_comm 128 (n + 1), Nat.mul_assoc, Nat.mul_comm 128]
        exact h4
      have hn : n + 1 ≤ 34359738368 := Nat.le_trans (Nat.le_mul_of_pos_right _ (Nat.pow_pos (by omega))) h4
      refine specTake_round hs ha hi (by omega) (fun h => by omega) (by omega) hm ?_
      refine Ev.ite (fun _ => Ev.ite_neg (by omega) (Ev.now _)) fun _ => ?_
      exact ih m (i + 1) (by omega) (by omega) (by omega) (by omega) hp
    · exact specTake_end ha (.inl (by omega))
/-- The numbers are told alike: n so far, behind i - a bytes, the first of which is no 128. -/
theorem takeSdnv_go (s : ByteArray) (hs : s.size ≤ 1048576) (a : Nat) (ha : a < s.size) (hf : bt s (a : Int) ≠ 128) (d : Nat) : ∀ (n i : Nat), a ≤ i → a + 5 - i = d → i ≤ a + 5 → n ≤ 1000000000 → (n + 1) * 128 ^ d ≤ 34359738368 →
    (i = a → n = 0) → (a < i → 128 ^ (i - a - 1) ≤ n) →
    ∃ r : Int × Int × Bool, Ev (fun k => spec_l1Take.l0 k s (a : Int) (n : Int) (i : Int)) r ∧ Ev (fun k => impl_TakeSdnv.l0 k s (n : Int) (i : Int)) r ∧ (r.2.2 = true → (i : Int) < r.2.1 ∧ r.2.1 ≤ s.size ∧ 0 ≤ r.1 ∧ r.1 ≤ 1000000000) := by
  induction d with
  | zero =>
    intro n i h0 hd h2 hn h4 h5 h6
    refine ⟨(0, 0, false), specTake_end (by omega) (.inr (by omega)), ?_, fun h => by cases h⟩
    by_cases hi : i < s.size
    · have hb := bt_range s (i : Int)
      obtain ⟨m, hm⟩ := Int.eq_ofNat_of_zero_le (show (0 : Int) ≤ 128 * n + bt s (i : Int) % 128 by omega)
      have h7 := h6 (by omega)
      rw [show i - a - 1 = 4 by omega] at h7
      exact implTake_round hs hi hn hm (Ev.ite_pos (by omega) (Ev.now _))
    · refine Ev.step (fun k => by rw [impl_TakeSdnv.l0]) ?_
      exact Ev.ite_neg (by omega) (Ev.now _)
  | succ d ih =>
    intro n i h0 hd h2 hn h4 h5 h6
    by_cases hi : i < s.size
    · have hb := bt_range s (i : Int)
      obtain ⟨m, hm⟩ := Int.eq_ofNat_of_zero_le (show (0 : Int) ≤ 128 * n + bt s (i : Int) % 128 by omega)
      have hp : (m + 1) * 128 ^ d ≤ 34359738368 := by
        refine Nat.le_trans (Nat.mul_le_mul_right _ (show m + 1 ≤ 128 * (n + 1) by omega)) ?_
        rw [Nat.pow_succ] at h4
        rw [Nat.mul_comm 128 (n + 1), Nat.mul_assoc, Nat.mul_comm 128]
        exact h4
      have hfi : i = a → bt s (i : Int) ≠ 128 := fun h => by rw [h]; exact hf
      have sr : ∀ {r}, _ → _ := fun {r} => specTake_round (r := r) hs (by omega) hi (by omega : i < a + 5) hfi (by omega) hm
      have ir : ∀ {r}, _ → _ := fun {r} => implTake_round (r := r) hs hi hn hm
      by_cases hsm : bt s (i : Int) < 128
      · by_cases hbig : (m : Int) > 1000000000
        · exact ⟨(0, 0, false), sr (Ev.ite_pos hsm (Ev.ite_neg (by omega) (Ev.now _))), ir (Ev.ite_pos hbig (Ev.now _)), fun h => by cases h⟩
        · refine ⟨_, sr (Ev.ite_pos hsm (Ev.ite_pos (by omega) (Ev.now _))), ir (Ev.ite_neg hbig (Ev.ite_pos hsm (Ev.now _))), fun _ => ?_⟩
          simp only
          omega
      · by_cases hbig : (m : Int) > 1000000000
        · exact ⟨(0, 0, false), sr (Ev.ite_neg hsm (takeOver_go s hs a (by omega) d m (i + 1) (by omega) (by omega) (by omega) (by omega) hp)), ir (Ev.ite_pos hbig (Ev.now _)), fun h => by cases h⟩
        · have hpos : 128 ^ (i + 1 - a - 1) ≤ m := by
            by_cases hia : i = a
            · subst hia
              have := h5 rfl
              have h8 := hfi rfl
              rw [show i + 1 - i - 1 = 0 by omega, Nat.pow_zero]
              omega
            · have := h6 (by omega)
              rw [show i + 1 - a - 1 = (i - a - 1) + 1 by omega, Nat.pow_succ]
              omega
          obtain ⟨r, x, y, z⟩ := ih m (i + 1) (by omega) (by omega) (by omega) (by omega) hp (fun h => by omega) (fun _ => hpos)
          exact ⟨r, sr (Ev.ite_neg hsm x), ir (Ev.ite_neg hbig (Ev.ite_neg hsm y)), fun h => by have := z h; omega⟩
    · refine ⟨(0, 0, false), specTake_end (by omega) (.inl (by omega)), ?_, fun h => by cases h⟩
      refine Ev.step (fun k => by rw [impl_TakeSdnv.l0]) ?_
      exact Ev.ite_neg (by omega) (Ev.now _)
/-- A place in a text of at most 400 bytes. -/
theorem take_both (s : ByteArray) (hs : s.size ≤ 400) (a : Nat) (ha : a < s.size) :
    ∃ r : Int × Int × Bool, Ev (fun k => spec_l1Take.f k s (a : Int)) r ∧ Ev (fun k => impl_TakeSdnv.f k s (a : Int)) r ∧ (r.2.2 = true → (a : Int) < r.2.1 ∧ r.2.1 ≤ s.size ∧ 0 ≤ r.1 ∧ r.1 ≤ 1000000000) := by
  have ew : wrap64 ((s.size : Int) - 1) = (s.size : Int) - 1 := w64 (by omega) (by omega)
  have hin : (0 ≤ (a : Int) ∧ (a : Int) ≤ (s.size : Int) - 1) := by omega
  simp only [spec_l1Take.f, impl_TakeSdnv.f, ew, implWithin, Option.bind_some, hin, and_self, decide_true, if_true, if_neg (show ¬ (s.size : Int) > 400 by omega), if_pos (show (0 : Int) ≤ (a : Int) by omega), if_pos (show (a : Int) < (s.size : Int) by omega)]
  by_cases hf : bt s (a : Int) = 128
  · refine ⟨(0, 0, false), ?_, ?_, fun h => by cases h⟩
    · refine Ev.step (fun k => by rw [spec_l1Take.l0]) ?_
      refine Ev.ite_pos (by omega) ?_
      refine Ev.step (fun k => by rw [spec_l1Take.j1]) ?_
      have e5 : wrap64 ((a : Int) + 5) = (a : Int) + 5 := w64 (by omega) (by omega)
      refine Ev.ite_pos (by rw [e5]; simp; omega) (Ev.ite_pos rfl (Ev.ite_pos (by omega) (Ev.ite_pos (by omega) ?_)))
      refine Ev.step (fun k => by rw [spec_l1Take.j2]) ?_
      exact Ev.ite_pos (by simpa using hf) (Ev.now _)
    · refine Ev.step (fun k => by rw [impl_TakeSdnv.j0]) ?_
      exact Ev.ite_pos (by simpa using hf) (Ev.now _)
  · obtain ⟨r, x, y, z⟩ := takeSdnv_go s (by omega) a ha hf 5 0 a (by omega) (by omega) (by omega) (by omega) (by decide) (fun _ => rfl) (fun h => by omega)
    refine ⟨r, x, ?_, z⟩
    refine Ev.step (fun k => by rw [impl_TakeSdnv.j0]) ?_
    exact Ev.ite_neg (by simpa using hf) y
theorem FnExactTakeSdnv : laws_FnExactTakeSdnv.Pure := by
  intro s a hs h
  have hb := wf_i64 h
  refine Ev.rounds ?_
  simp only [laws_FnExactTakeSdnv.f]
  refine Ev.ite (fun _ => Ev.now _) fun hsz => ?_
  by_cases hin : s.size ≤ 400 ∧ 0 ≤ a ∧ a < s.size
  · obtain ⟨n, rfl⟩ := Int.eq_ofNat_of_zero_le hin.2.1
    obtain ⟨r, x, y, _⟩ := take_both s hin.1 n (by omega)
    have sp : Ev (fun k => spec_TakeSdnv.f k s (n : Int)) r := by
      simp only [spec_TakeSdnv.f]
      refine Ev.ite_neg (by omega) (Ev.ite_neg (by omega) (Ev.ite_neg (by omega) ?_))
      exact Ev.bind x (Ev.now _)
    refine Ev.bind sp (Ev.bind y ?_)
    simp
    exact Ev.now _
  · have sp : Ev (fun k => spec_TakeSdnv.f k s a) (0, 0, false) := by
      simp only [spec_TakeSdnv.f]
      by_cases h1 : (s.size : Int) > 400
      · exact Ev.ite_pos h1 (Ev.now _)
      · refine Ev.ite_neg h1 ?_
        by_cases h2 : a < 0
        · exact Ev.ite_pos h2 (Ev.now _)
        · exact Ev.ite_neg h2 (Ev.ite_pos (by omega) (Ev.now _))
    have ip : Ev (fun k => impl_TakeSdnv.f k s a) (0, 0, false) := by
      have end0 : Ev (fun k => impl_TakeSdnv.j0 k s a true) (0, 0, false) := by
        refine Ev.step (fun k => by rw [impl_TakeSdnv.j0]) ?_
        exact Ev.ite_pos rfl (Ev.now _)
      simp only [impl_TakeSdnv.f, implWithin, Option.bind_some]
      by_cases h1 : (s.size : Int) > 400
      · exact Ev.ite_pos h1 end0
      · refine Ev.ite_neg h1 ?_
        have ew : wrap64 ((s.size : Int) - 1) = (s.size : Int) - 1 := w64 (by omega) (by omega)
        refine Ev.ite_neg ?_ end0
        rw [ew]
        simp
        omega
    refine Ev.bind sp (Ev.bind ip ?_)
    simp
    exact Ev.now _

end Go.Proofs.Ytjafmdilgpnbaaa.Pure
