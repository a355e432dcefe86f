/- What the printed program answers at this law is true, for every argument. -/
import Derived.Test.YtjafmdilgpnbaaaPFnExactWithCrcx1
import Derived.Test.YtjafmdilgpnbaaaPlain
set_option linter.unusedVariables false
set_option linter.unusedSimpArgs false
namespace Go.Proofs.Ytjafmdilgpnbaaa.Pure
open Go.RowKit Go.Proofs.Ytjafmdilgpnbaaa.PFnExactWithCrc Go.Proofs.YtjafmdilgpnbaaaW.PrintWords Go.Proofs.YtjafmdilgpnbaaaW.PrintLast Go.Proofs.Ytjafmdilgpnbaaa.Plain

theorem crc_go (n : Nat) : ∀ (x : Nat) (i : Int), x < 65536 → 0 ≤ i → i ≤ 8 → 8 - i = n → Ev (fun k => spec_l1Crc.l0 k (x : Int) i) (crcRounds n x : Int) ∧ Ev (fun k => impl_crcAdd.l0 k (x : Int) i) (crcRounds n x : Int) := by
  induction n with
  | zero =>
    intro x i hx h0 h1 hn
    constructor
    · refine Ev.step (fun k => by rw [spec_l1Crc.l0]) ?_
      simp only [if_neg (show ¬ i < 8 by omega), crcRounds]
      exact Ev.now _
    · refine Ev.step (fun k => by rw [impl_crcAdd.l0]) ?_
      simp only [if_neg (show ¬ i < 8 by omega), crcRounds]
      exact Ev.now _
  | succ n ih =>
    intro x i hx h0 h1 hn
    have hw : wrap64 (i + 1) = i + 1 := w64 (by omega) (by omega)
    have hw2 : wrap64 ((x : Int) * 2) = ((2 * x : Nat) : Int) := by rw [w64 (by omega) (by omega)]; omega
    obtain ⟨a, b⟩ := ih (crcRound x) (i + 1) (crcRound_lt hx) (by omega) (by omega) (by omega)
    have e : (if ((2 * x : Nat) : Int) > 65535 then Go.bits .xor .i64 ((2 * x : Nat) : Int) 69665 else ((2 * x : Nat) : Int)) = (crcRound x : Int) := by
      unfold crcRound
      by_cases h : 65535 < 2 * x
      · rw [if_pos (by omega), if_pos h]
        exact xor_i64 (2 * x) 69665 (by omega) (by omega)
      · rw [if_neg (by omega), if_neg h]
    constructor
    · refine Ev.step (fun k => by rw [spec_l1Crc.l0]) ?_
      simp only [if_pos (show i < 8 by omega), hw, hw2]
      by_cases h : ((2 * x : Nat) : Int) > 65535
      · simp only [if_pos h] at e ⊢
        rw [e]; simpa only [crcRounds] using a
      · simp only [if_neg h] at e ⊢
        rw [e]; simpa only [crcRounds] using a
    · refine Ev.step (fun k => by rw [impl_crcAdd.l0]) ?_
      simp only [if_pos (show i < 8 by omega), hw, hw2]
      by_cases h : ((2 * x : Nat) : Int) > 65535
      · simp only [if_pos h] at e ⊢
        rw [e]; simpa only [crcRounds] using b
      · simp only [if_neg h] at e ⊢
        rw [e]; simpa only [crcRounds] using b
theorem crc_one (x b : Nat) (hx : x < 65536) (hb : b < 256) : Ev (fun k => spec_l1Crc.f k (x : Int) (b : Int)) (crcByte x b : Int) ∧ Ev (fun k => impl_crcAdd.f k (x : Int) (b : Int)) (crcByte x b : Int) := by
  have := crc_go 8 (x ^^^ (b * 256)) 0 (xor_byte_lt hx hb) (by omega) (by omega) (by omega)
  simp only [spec_l1Crc.f, impl_crcAdd.f, w64 (show -9223372036854775808 ≤ (b : Int) by omega) (show (b : Int) ≤ 9223372036854775807 by omega)]
  have e1 : wrap64 ((b : Int) * 256) = ((b * 256 : Nat) : Int) := by rw [w64 (by omega) (by omega)]; omega
  have e2 : wrap64 (256 * (b : Int)) = ((b * 256 : Nat) : Int) := by rw [w64 (by omega) (by omega)]; omega
  rw [e1, e2, xor_i64 x (b * 256) (by omega) (by omega)]
  exact this
theorem crcOf_go (s : ByteArray) (hs : s.size ≤ 4611686018427387904) (n : Nat) : ∀ (x i : Nat), x < 65536 → i ≤ s.size → s.size - i = n →
    Ev (fun k => spec_l1CrcOf.l0 k s (x : Int) (i : Int)) (crcOver x (s.data.toList.drop i) : Int) ∧ Ev (fun k => impl_crcOf.l0 k s (x : Int) (s.size : Int) (i : Int)) (crcOver x (s.data.toList.drop i) : Int) := by
  induction n with
  | zero =>
    intro x i hx h0 hn
    have e : s.data.toList.drop i = [] := List.drop_eq_nil_of_le (by rw [size_data]; omega)
    rw [e]
    constructor
    · refine Ev.step (fun k => by rw [spec_l1CrcOf.l0]) ?_
      simp only [if_neg (show ¬ (i : Int) < (s.size : Int) by omega)]
      exact Ev.now _
    · refine Ev.step (fun k => by rw [impl_crcOf.l0]) ?_
      simp only [if_neg (show ¬ (i : Int) < (s.size : Int) by omega)]
      exact Ev.now _
  | succ n ih =>
    intro x i hx h0 hn
    have hi : i < s.size := by omega
    have hw : wrap64 ((i : Int) + 1) = ((i + 1 : Nat) : Int) := by rw [w64 (by omega) (by omega)]; omega
    have hb : bt s (i : Int) = (s[i].toNat : Int) := by simp [bt, hi]
    have e : s.data.toList.drop i = s[i] :: s.data.toList.drop (i + 1) := List.drop_eq_getElem_cons (by rw [size_data]; exact hi)
    obtain ⟨p, q⟩ := crc_one x s[i].toNat hx s[i].toNat_lt
    obtain ⟨a, b⟩ := ih (crcByte x s[i].toNat) (i + 1) (crcByte_lt hx s[i].toNat_lt) (by omega) (by omega)
    rw [e]
    simp only [crcOver, List.foldl_cons] at a b ⊢
    constructor
    · refine Ev.step (fun k => by rw [spec_l1CrcOf.l0]) ?_
      simp only [if_pos (show (i : Int) < (s.size : Int) by omega), if_pos (show (0 : Int) ≤ (i : Int) by omega), hw, hb]
      exact Ev.bind p a
    · refine Ev.step (fun k => by rw [impl_crcOf.l0]) ?_
      simp only [if_pos (show (i : Int) < (s.size : Int) by omega), if_pos (show (0 : Int) ≤ (i : Int) by omega), hw, hb]
      exact Ev.bind q b
/-- The sum of a text. -/
def crcText (s : ByteArray) : Nat := crcOver 65535 s.data.toList
theorem crcText_lt (s : ByteArray) : crcText s < 65536 := crcOver_lt _ (by omega)
theorem crcOf_both (s : ByteArray) (hs : s.size ≤ 4611686018427387904) : Ev (fun k => spec_l1CrcOf.f k s) (crcText s : Int) ∧ Ev (fun k => impl_crcOf.f k s) (crcText s : Int) := by
  simp only [spec_l1CrcOf.f, impl_crcOf.f]
  exact crcOf_go s hs s.size 65535 0 (by omega) (by omega) (by omega)
/-- A text with its sum behind it. -/
def withSum (s : ByteArray) : ByteArray := s ++ strOfNums [(crcText s : Int) / 256 % 256, (crcText s : Int) % 256]
theorem specWith (s : ByteArray) (hs : s.size ≤ 4611686018427387904) : Ev (fun k => spec_l1With.f k s) (withSum s) := by
  simp only [spec_l1With.f]
  refine Ev.bind (crcOf_both s hs).1 ?_
  refine Ev.some_bind ?_
  simp only [strOfNums_size]
  refine Ev.ite_pos (by simp; omega) ?_
  exact Ev.now _
theorem implWith (s : ByteArray) (hs : s.size ≤ 398) : Ev (fun k => impl_WithCrc.f k s) (withSum s, true) := by
  simp only [impl_WithCrc.f]
  refine Ev.ite_neg (by omega) ?_
  refine Ev.bind (crcOf_both s (by omega)).2 ?_
  have e : ([wrap64 (Int.tdiv (crcText s : Int) 256) % 256, Int.tmod (crcText s : Int) 256 % 256] : List Int) = [(crcText s : Int) / 256 % 256, (crcText s : Int) % 256] := by
    have h := crcText_lt s
    rw [Int.tdiv_eq_ediv_of_nonneg (by omega), Int.tmod_eq_emod_of_nonneg (by omega), w64 (by omega) (by omega), Int.emod_emod]
  rw [e]
  refine Ev.some_bind ?_
  simp only [strOfNums_size]
  refine Ev.ite_pos (by simp; omega) ?_
  exact Ev.now _
theorem FnExactWithCrc : laws_FnExactWithCrc.Pure := by
  intro s hs
  refine Ev.rounds ?_
  simp only [laws_FnExactWithCrc.f, spec_WithCrc.f]
  refine Ev.ite (fun _ => Ev.now _) fun _ => ?_
  by_cases h : (s.size : Int) > 398
  · simp only [if_pos h, Option.bind_some, impl_WithCrc.f]
    simp
    exact Ev.now _
  · simp only [if_neg h]
    refine Ev.bind (Ev.bind (specWith s (by omega)) (Ev.now _)) ?_
    refine Ev.bind (implWith s (by omega)) ?_
    simp
    exact Ev.now _

end Go.Proofs.Ytjafmdilgpnbaaa.Pure
