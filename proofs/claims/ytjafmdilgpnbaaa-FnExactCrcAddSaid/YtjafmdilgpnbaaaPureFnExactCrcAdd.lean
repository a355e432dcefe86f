/- What the printed program answers at this law is true, for every argument. -/
import Derived.Test.YtjafmdilgpnbaaaPFnExactCrcAddx1
import Derived.Test.YtjafmdilgpnbaaaPlain
set_option linter.unusedVariables false
set_option linter.unusedSimpArgs false
namespace Go.Proofs.Ytjafmdilgpnbaaa.Pure
open Go.RowKit Go.Proofs.Ytjafmdilgpnbaaa.PFnExactCrcAdd Go.Proofs.YtjafmdilgpnbaaaW.PrintWords Go.Proofs.YtjafmdilgpnbaaaW.PrintLast Go.Proofs.Ytjafmdilgpnbaaa.Plain

theorem crc_go (n : Nat) : ∀ (x : Nat) (i : Int), x < 65536 → 0 ≤ i → i ≤ 8 → 8 - i = n → Ev (fun k => spec_l1Crc.l0 k (x : Int) i) (crcRounds n x : Int) ∧ Ev (fun k => impl_crcAdd.l0 k (x : Int) i) (crcRounds n x : Int) := by
  induction n with
  | zero =>
    intro x i hx h0 h1 hn
    constructor
    · refine Ev.step (fun k => by rw [spec_l1Crc.l0]) ?_
      simp only [if_neg (show ¬ i < 8 by omega), crcRounds]
      exact Ev.now _
    · refine Ev.step (fun k => by rw [impl_crcAdd.l0]) ?_
      simp only [if_neg (show ¬ i < 8 by omega), crcRounds]
      exact Ev.now _
  | succ n ih =>
    intro x i hx h0 h1 hn
    have hw : wrap64 (i + 1) = i + 1 := w64 (by omega) (by omega)
    have hw2 : wrap64 ((x : Int) * 2) = ((2 * x : Nat) : Int) := by rw [w64 (by omega) (by omega)]; omega
    obtain ⟨a, b⟩ := ih (crcRound x) (i + 1) (crcRound_lt hx) (by omega) (by omega) (by omega)
    have e : (if ((2 * x : Nat) : Int) > 65535 then Go.bits .xor .i64 ((2 * x : Nat) : Int) 69665 else ((2 * x : Nat) : Int)) = (crcRound x : Int) := by
      unfold crcRound
      by_cases h : 65535 < 2 * x
      · rw [if_pos (by omega), if_pos h]
        exact xor_i64 (2 * x) 69665 (by omega) (by omega)
      · rw [if_neg (by omega), if_neg h]
    constructor
    · refine Ev.step (fun k => by rw [spec_l1Crc.l0]) ?_
      simp only [if_pos (show i < 8 by omega), hw, hw2]
      by_cases h : ((2 * x : Nat) : Int) > 65535
      · simp only [if_pos h] at e ⊢
        rw [e]; simpa only [crcRounds] using a
      · simp only [if_neg h] at e ⊢
        rw [e]; simpa only [crcRounds] using a
    · refine Ev.step (fun k => by rw [impl_crcAdd.l0]) ?_
      simp only [if_pos (show i < 8 by omega), hw, hw2]
      by_cases h : ((2 * x : Nat) : Int) > 65535
      · simp only [if_pos h] at e ⊢
        rw [e]; simpa only [crcRounds] using b
      · simp only [if_neg h] at e ⊢
        rw [e]; simpa only [crcRounds] using b
theorem crc_one (x b : Nat) (hx : x < 65536) (hb : b < 256) : Ev (fun k => spec_l1Crc.f k (x : Int) (b : Int)) (crcByte x b : Int) ∧ Ev (fun k => impl_crcAdd.f k (x : Int) (b : Int)) (crcByte x b : Int) := by
  have := crc_go 8 (x ^^^ (b * 256)) 0 (xor_byte_lt hx hb) (by omega) (by omega) (by omega)
  simp only [spec_l1Crc.f, impl_crcAdd.f, w64 (show -9223372036854775808 ≤ (b : Int) by omega) (show (b : Int) ≤ 9223372036854775807 by omega)]
  have e1 : wrap64 ((b : Int) * 256) = ((b * 256 : Nat) : Int) := by rw [w64 (by omega) (by omega)]; omega
  have e2 : wrap64 (256 * (b : Int)) = ((b * 256 : Nat) : Int) := by rw [w64 (by omega) (by omega)]; omega
  rw [e1, e2, xor_i64 x (b * 256) (by omega) (by omega)]
  exact this
theorem specIn (a b c : Int) : spec_l1In.f a b c = some (decide (b ≤ a ∧ a ≤ c)) := by
  unfold spec_l1In.f
  by_cases h : b ≤ a <;> simp [h]
theorem implWithin (a b c : Int) : impl_within.f a b c = some (decide (b ≤ a ∧ a ≤ c)) := by
  unfold impl_within.f
  by_cases h : b ≤ a <;> simp [h]
theorem FnExactCrcAdd : laws_FnExactCrcAdd.Pure := by
  intro a b h h'
  have hb := wf_u8 h'
  refine Ev.rounds ?_
  simp only [laws_FnExactCrcAdd.f, spec_CrcAdd.f, impl_CrcAdd.f, specIn, implWithin, Option.bind_some]
  by_cases hv : 0 ≤ a ∧ a ≤ 65535
  · obtain ⟨n, rfl⟩ := Int.eq_ofNat_of_zero_le hv.1
    obtain ⟨m, rfl⟩ := Int.eq_ofNat_of_zero_le hb.1
    simp only [hv, decide_true, if_true]
    have c := crc_one n m (by omega) (by omega)
    refine Ev.bind (Ev.bind c.1 (Ev.now _)) ?_
    refine Ev.bind (Ev.bind c.2 (Ev.now _)) ?_
    simp
    exact Ev.now _
  · simp only [hv, decide_false]
    simp
    exact Ev.now _

end Go.Proofs.Ytjafmdilgpnbaaa.Pure
