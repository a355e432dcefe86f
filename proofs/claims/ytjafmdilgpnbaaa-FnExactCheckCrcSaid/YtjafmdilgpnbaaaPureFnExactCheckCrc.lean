/- What the printed program answers at this law is true, for every argument. -/
import Derived.Test.YtjafmdilgpnbaaaPFnExactCheckCrcx1
import Derived.Test.YtjafmdilgpnbaaaPlain
set_option linter.unusedVariables false
set_option linter.unusedSimpArgs false
namespace Go.Proofs.Ytjafmdilgpnbaaa.Pure
open Go.RowKit Go.Proofs.Ytjafmdilgpnbaaa.PFnExactCheckCrc Go.Proofs.YtjafmdilgpnbaaaW.PrintWords Go.Proofs.YtjafmdilgpnbaaaW.PrintLast Go.Proofs.Ytjafmdilgpnbaaa.Plain

theorem crc_go (n : Nat) : ∀ (x : Nat) (i : Int), x < 65536 → 0 ≤ i → i ≤ 8 → 8 - i = n → Ev (fun k => spec_l1Crc.l0 k (x : Int) i) (crcRounds n x : Int) ∧ Ev (fun k => impl_crcAdd.l0 k (x : Int) i) (crcRounds n x : Int) := by
  induction n with
  | zero =>
    intro x i hx h0 h1 hn
    constructor
    · refine Ev.step (fun k => by rw [spec_l1Crc.l0]) ?_
      simp only [if_neg (show ¬ i < 8 by omega), crcRounds]
      exact Ev.now _
    · refine Ev.step (fun k => by rw [impl_crcAdd.l0]) ?_
      simp only [if_neg (show ¬ i < 8 by omega), crcRounds]
      exact Ev.now _
  | succ n ih =>
    intro x i hx h0 h1 hn
    have hw : wrap64 (i + 1) = i + 1 := w64 (by omega) (by omega)
    have hw2 : wrap64 ((x : Int) * 2) = ((2 * x : Nat) : Int) := by rw [w64 (by omega) (by omega)]; omega
    obtain ⟨a, b⟩ := ih (crcRound x) (i + 1) (crcRound_lt hx) (by omega) (by omega) (by omega)
    have e : (if ((2 * x : Nat) : Int) > 65535 then Go.bits .xor .i64 ((2 * x : Nat) : Int) 69665 else ((2 * x : Nat) : Int)) = (crcRound x : Int) := by
      unfold crcRound
      by_cases h : 65535 < 2 * x
      · rw [if_pos (by omega), if_pos h]
        exact xor_i64 (2 * x) 69665 (by omega) (by omega)
      · rw [if_neg (by omega), if_neg h]
    constructor
    · refine Ev.step (fun k => by rw [spec_l1Crc.l0]) ?_
      simp only [if_pos (show i < 8 by omega), hw, hw2]
      by_cases h : ((2 * x : Nat) : Int) > 65535
      · simp only [if_pos h] at e ⊢
        rw [e]; simpa only [crcRounds] using a
      · simp only [if_neg h] at e ⊢
        rw [e]; simpa only [crcRounds] using a
    · refine Ev.step (fun k => by rw [impl_crcAdd.l0]) ?_
      simp only [if_pos (show i < 8 by omega), hw, hw2]
      by_cases h : ((2 * x : Nat) : Int) > 65535
      · simp only [if_pos h] at e ⊢
        rw [e]; simpa only [crcRounds] using b
      · simp only [if_neg h] at e ⊢
        rw [e]; simpa only [crcRounds] using b
theorem crc_one (x b : Nat) (hx : x < 65536) (hb : b < 256) : Ev (fun k => spec_l1Crc.f k (x : Int) (b : Int)) (crcByte x b : Int) ∧ Ev (fun k => impl_crcAdd.f k (x : Int) (b : Int)) (crcByte x b : Int) := by
  have := crc_go 8 (x ^^^ (b * 256)) 0 (xor_byte_lt hx hb) (by omega) (by omega) (by omega)
  simp only [spec_l1Crc.f, impl_crcAdd.f, w64 (show -9223372036854775808 ≤ (b : Int) by omega) (show (b : Int) ≤ 9223372036854775807 by omega)]
  have e1 : wrap64 ((b : Int) * 256) = ((b * 256 : Nat) : Int) := by rw [w64 (by omega) (by omega)]; omega
  have e2 : wrap64 (256 * (b : Int)) = ((b * 256 : Nat) : Int) := by rw [w64 (by omega) (by omega)]; omega
  rw [e1, e2, xor_i64 x (b * 256) (by omega) (by omega)]
  exact this
theorem crcOf_go (s : ByteArray) (hs : s.size ≤ 4611686018427387904) (n : Nat) : ∀ (x i : Nat), x < 65536 → i ≤ s.size → s.size - i = n →
    Ev (fun k => spec_l1CrcOf.l0 k s (x : Int) (i : Int)) (crcOver x (s.data.toList.drop i) : Int) ∧ Ev (fun k => impl_crcOf.l0 k s (x : Int) (s.size : Int) (i : Int)) (crcOver x (s.data.toList.drop i) : Int) := by
  induction n with
  | zero =>
    intro x i hx h0 hn
    have e : s.data.toList.drop i = [] := List.drop_eq_nil_of_le (by rw [size_data]; omega)
    rw [e]
    constructor
    · refine Ev.step (fun k => by rw [spec_l1CrcOf.l0]) ?_
      simp only [if_neg (show ¬ (i : Int) < (s.size : Int) by omega)]
      exact Ev.now _
    · refine Ev.step (fun k => by rw [impl_crcOf.l0]) ?_
      simp only [if_neg (show ¬ (i : Int) < (s.size : Int) by omega)]
      exact Ev.now _
  | succ n ih =>
    intro x i hx h0 hn
    have hi : i < s.size := by omega
    have hw : wrap64 ((i : Int) + 1) = ((i + 1 : Nat) : Int) := by rw [w64 (by omega) (by omega)]; omega
    have hb : bt s (i : Int) = (s[i].toNat : Int) := by simp [bt, hi]
    have e : s.data.toList.drop i = s[i] :: s.data.toList.drop (i + 1) := List.drop_eq_getElem_cons (by rw [size_data]; exact hi)
    obtain ⟨p, q⟩ := crc_one x s[i].toNat hx s[i].toNat_lt
    obtain ⟨a, b⟩ := ih (crcByte x s[i].toNat) (i + 1) (crcByte_lt hx s[i].toNat_lt) (by omega) (by omega)
    rw [e]
    simp only [crcOver, List.foldl_cons] at a b ⊢
    constructor
    · refine Ev.step (fun k => by rw [spec_l1CrcOf.l0]) ?_
      simp only [if_pos (show (i : Int) < (s.size : Int) by omega), if_pos (show (0 : Int) ≤ (i : Int) by omega), hw, hb]
      exact Ev.bind p a
    · refine Ev.step (fun k => by rw [impl_crcOf.l0]) ?_
      simp only [if_pos (show (i : Int) < (s.size : Int) by omega), if_pos (show (0 : Int) ≤ (i : Int) by omega), hw, hb]
      exact Ev.bind q b
/-- The sum of a text. -/
def crcText (s : ByteArray) : Nat := crcOver 65535 s.data.toList
theorem crcText_lt (s : ByteArray) : crcText s < 65536 := crcOver_lt _ (by omega)
theorem crcOf_both (s : ByteArray) (hs : s.size ≤ 4611686018427387904) : Ev (fun k => spec_l1CrcOf.f k s) (crcText s : Int) ∧ Ev (fun k => impl_crcOf.f k s) (crcText s : Int) := by
  simp only [spec_l1CrcOf.f, impl_crcOf.f]
  exact crcOf_go s hs s.size 65535 0 (by omega) (by omega) (by omega)
/-- A text with its sum behind it. -/
def withSum (s : ByteArray) : ByteArray := s ++ strOfNums [(crcText s : Int) / 256 % 256, (crcText s : Int) % 256]
theorem specWith (s : ByteArray) (hs : s.size ≤ 4611686018427387904) : Ev (fun k => spec_l1With.f k s) (withSum s) := by
  simp only [spec_l1With.f]
  refine Ev.bind (crcOf_both s hs).1 ?_
  refine Ev.some_bind ?_
  simp only [strOfNums_size]
  refine Ev.ite_pos (by simp; omega) ?_
  exact Ev.now _
theorem implWith (s : ByteArray) (hs : s.size ≤ 398) : Ev (fun k => impl_WithCrc.f k s) (withSum s, true) := by
  simp only [impl_WithCrc.f]
  refine Ev.ite_neg (by omega) ?_
  refine Ev.bind (crcOf_both s (by omega)).2 ?_
  have e : ([wrap64 (Int.tdiv (crcText s : Int) 256) % 256, Int.tmod (crcText s : Int) 256 % 256] : List Int) = [(crcText s : Int) / 256 % 256, (crcText s : Int) % 256] := by
    have h := crcText_lt s
    rw [Int.tdiv_eq_ediv_of_nonneg (by omega), Int.tmod_eq_emod_of_nonneg (by omega), w64 (by omega) (by omega), Int.emod_emod]
  rw [e]
  refine Ev.some_bind ?_
  simp only [strOfNums_size]
  refine Ev.ite_pos (by simp; omega) ?_
  exact Ev.now _
theorem specIn (a b c : Int) : spec_l1In.f a b c = some (decide (b ≤ a ∧ a ≤ c)) := by
  unfold spec_l1In.f
  by_cases h : b ≤ a <;> simp [h]
theorem implWithin (a b c : Int) : impl_within.f a b c = some (decide (b ≤ a ∧ a ≤ c)) := by
  unfold impl_within.f
  by_cases h : b ≤ a <;> simp [h]
/-- What CheckCrc tells of a text. -/
def checked (s : ByteArray) : ByteArray × Bool :=
  if 2 ≤ s.size ∧ s.size ≤ 400 then if withSum (s.extract 0 (s.size - 2)) = s then (s.extract 0 (s.size - 2), true) else (⟨#[]⟩, false) else (⟨#[]⟩, false)
theorem toList_inj {s t : ByteArray} : s.toList = t.toList ↔ s = t := by
  constructor
  · intro h
    rw [ByteArray.toList_eq, ByteArray.toList_eq] at h
    exact str_ext h
  · intro h; rw [h]
theorem specCheck (s : ByteArray) (hs : s.size ≤ 4611686018427387904) : Ev (fun k => spec_CheckCrc.f k s) (checked s) := by
  simp only [spec_CheckCrc.f, specIn, Option.bind_some, checked]
  by_cases h : 2 ≤ s.size ∧ s.size ≤ 400
  · have hw : wrap64 ((s.size : Int) - 2) = ((s.size - 2 : Nat) : Int) := by rw [w64 (by omega) (by omega)]; omega
    have hx : (s.extract 0 (s.size - 2)).size = s.size - 2 := by simp
    simp only [hw, Int.toNat_natCast, show (2 ≤ (s.size : Int) ∧ (s.size : Int) ≤ 400) by omega, and_self, decide_true, if_true, if_pos (show (0 : Int) ≤ ((s.size - 2 : Nat) : Int) by omega), if_pos (show ((s.size - 2 : Nat) : Int) ≤ (s.size : Int) by omega)]
    rw [if_pos h]
    refine Ev.bind (specWith _ (by omega)) ?_
    simp only [toList_inj]
    by_cases e : withSum (s.extract 0 (s.size - 2)) = s
    · simp only [if_pos e]; exact Ev.now _
    · simp only [if_neg e]; exact Ev.now _
  · rw [if_neg h]
    simp only [show ¬ (2 ≤ (s.size : Int) ∧ (s.size : Int) ≤ 400) by omega, decide_false]
    simp
    exact Ev.now _
theorem implCheck (s : ByteArray) (hs : s.size ≤ 4611686018427387904) : Ev (fun k => impl_CheckCrc.f k s) (checked s) := by
  have hw : wrap64 ((s.size : Int) - 2) = (s.size : Int) - 2 := by rw [w64 (by omega) (by omega)]
  simp only [impl_CheckCrc.f, implWithin, Option.bind_some, checked, hw]
  by_cases h : 2 ≤ s.size ∧ s.size ≤ 400
  · have hw2 : (s.size : Int) - 2 = ((s.size - 2 : Nat) : Int) := by omega
    have hx : (s.extract 0 (s.size - 2)).size = s.size - 2 := by simp
    simp only [hw2, Int.toNat_natCast, show ((0 : Int) ≤ ((s.size - 2 : Nat) : Int) ∧ ((s.size - 2 : Nat) : Int) ≤ 398) by omega, and_self, decide_true, if_true, if_pos (show (0 : Int) ≤ ((s.size - 2 : Nat) : Int) by omega), if_pos (show ((s.size - 2 : Nat) : Int) ≤ (s.size : Int) by omega)]
    rw [if_pos h]
    refine Ev.bind (implWith _ (by omega)) ?_
    simp only [toList_inj]
    by_cases e : withSum (s.extract 0 (s.size - 2)) = s
    · simp only [if_pos e]; exact Ev.now _
    · simp only [if_neg e]; exact Ev.now _
  · rw [if_neg h]
    simp only [show ¬ (0 ≤ (s.size : Int) - 2 ∧ (s.size : Int) - 2 ≤ 398) by omega, decide_false]
    simp
    exact Ev.now _
theorem FnExactCheckCrc : laws_FnExactCheckCrc.Pure := by
  intro s hs
  refine Ev.rounds ?_
  simp only [laws_FnExactCheckCrc.f]
  refine Ev.ite (fun _ => Ev.now _) fun _ => ?_
  refine Ev.bind (specCheck s (by omega)) ?_
  refine Ev.bind (implCheck s (by omega)) ?_
  simp
  exact Ev.now _

end Go.Proofs.Ytjafmdilgpnbaaa.Pure
