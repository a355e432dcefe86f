/- What the printed program answers at this law is true, for every argument. -/
import Derived.Test.YtjafmdilgpnbaaaPFnExactSdnvListx2
import Derived.Test.YtjafmdilgpnbaaaPlain
import Derived.Test.YtjafmdilgpnbaaaGoalFnExactSdnvList
set_option linter.unusedVariables false
set_option linter.unusedSimpArgs false
namespace Go.Proofs.Ytjafmdilgpnbaaa.Pure
open Go.RowKit Go.Proofs.Ytjafmdilgpnbaaa.PFnExactSdnvList Go.Proofs.YtjafmdilgpnbaaaW.PrintWords Go.Proofs.YtjafmdilgpnbaaaW.PrintLast Go.Proofs.Ytjafmdilgpnbaaa.Plain Go.Proofs.Ytjafmdilgpnbaaa.GoalFnExactSdnvList

theorem reverse_go (l : List Int) (hl : l.length ≤ 4611686018427387904) (d : Nat) : ∀ (x : List Int) (i j : Int), x.length = l.length → 0 ≤ i → i + j = (l.length : Int) - 1 → i ≤ j + 1 → j + 1 - i ≤ d →
    (∀ m : Nat, m < l.length → rd x (m : Int) = if (m : Int) < i ∨ j < (m : Int) then rd l ((l.length - 1 - m : Nat) : Int) else rd l (m : Int)) → Ev (fun k => slices_Reverse_byte_byte.l0 k x i j) l.reverse := by
  induction d with
  | zero =>
    intro x i j hx h0 hs hij hd hm
    refine Ev.step (fun k => by rw [slices_Reverse_byte_byte.l0]) ?_
    simp only [if_neg (show ¬ i < j by omega)]
    refine Ev.now' (List.ext_getElem (by simp [hx]) fun m h1 h2 => ?_)
    have h := hm m (by omega)
    rw [rd_eq x m h1] at h
    rw [h, List.getElem_reverse, if_pos (by omega), rd_eq l _ (by omega)]
  | succ d ih =>
    intro x i j hx h0 hs hij hd hm
    by_cases hlt : i < j
    · refine Ev.step (fun k => by rw [slices_Reverse_byte_byte.l0]) ?_
      obtain ⟨a, rfl⟩ := Int.eq_ofNat_of_zero_le h0
      obtain ⟨b, rfl⟩ := Int.eq_ofNat_of_zero_le (show 0 ≤ j by omega)
      simp only [if_pos hlt, if_pos (show (0 : Int) ≤ (b : Int) by omega), if_pos (show (b : Int) < (x.length : Int) by omega), if_pos h0, if_pos (show (a : Int) < (x.length : Int) by omega), Int.toNat_natCast, w64 (show -9223372036854775808 ≤ (a : Int) + 1 by omega) (show (a : Int) + 1 ≤ 9223372036854775807 by omega), w64 (show -9223372036854775808 ≤ (b : Int) - 1 by omega) (show (b : Int) - 1 ≤ 9223372036854775807 by omega)]
      refine ih _ _ _ (by simpa using hx) (by omega) (by omega) (by omega) (by omega) fun m hml => ?_
      by_cases mb : m = b
      · subst mb
        rw [rd_set_same _ _ (by simp; omega), if_pos (by omega), hm a (by omega), if_neg (by omega)]
        congr 1; omega
      · rw [rd_set_ne _ _ _ (by omega)]
        by_cases ma : m = a
        · subst ma
          rw [rd_set_same _ _ (by omega), if_pos (by omega), hm b (by omega), if_neg (by omega)]
          congr 1; omega
        · rw [rd_set_ne _ _ _ (by omega), hm m hml]
          by_cases hc : (m : Int) < (a : Int) ∨ (b : Int) < (m : Int)
          · rw [if_pos hc, if_pos (by omega)]
          · rw [if_neg hc, if_neg (by omega)]
    · refine Ev.step (fun k => by rw [slices_Reverse_byte_byte.l0]) ?_
      simp only [if_neg hlt]
      refine Ev.now' (List.ext_getElem (by simp [hx]) fun m h1 h2 => ?_)
      have h := hm m (by omega)
      rw [rd_eq x m h1] at h
      rw [h, List.getElem_reverse]
      split
      · rw [rd_eq l _ (by omega)]
      · rw [rd_eq l _ (by omega)]
        congr 1; omega
theorem reverse_all (l : List Int) (hl : l.length ≤ 4611686018427387904) : Ev (fun k => slices_Reverse_byte_byte.f k l) l.reverse := by
  simp only [slices_Reverse_byte_byte.f, w64 (show -9223372036854775808 ≤ (l.length : Int) - 1 by omega) (show (l.length : Int) - 1 ≤ 9223372036854775807 by omega)]
  refine reverse_go l hl l.length l 0 _ rfl (by omega) (by omega) (by omega) (by omega) fun m hm => ?_
  rw [if_neg (by omega)]
/-- The sevens of a number, the lowest first; all but the first with 128 added. -/
def sevens : Nat → Nat → List Int
  | 0, _ => []
  | d + 1, n => if n = 0 then [] else ((n % 128 + 128 : Nat) : Int) :: sevens d (n / 128)
theorem sevens_len (d : Nat) : ∀ n, (sevens d n).length ≤ d := by
  induction d with
  | zero => intro n; simp [sevens]
  | succ d ih =>
    intro n
    simp only [sevens]
    split
    · simp
    · simp; exact ih _
def sdnvText (n : Nat) : ByteArray := strOfNums ((((n % 128 : Nat) : Int) :: sevens 10 (n / 128)).reverse)
theorem sdnvText_size (n : Nat) : 1 ≤ (sdnvText n).size ∧ (sdnvText n).size ≤ 11 := by
  have := sevens_len 10 (n / 128)
  simp [sdnvText, strOfNums_size]
  omega
theorem specSdnv_go (d : Nat) : ∀ (n : Nat) (xs : List Int), n < 128 ^ d → n ≤ 9223372036854775807 → xs.length + d ≤ 100 → Ev (fun k => spec_l1Sdnv.l0 k (n : Int) (strOfNums xs.reverse)) (strOfNums (xs ++ sevens d n).reverse) := by
  induction d with
  | zero =>
    intro n xs hn hb hl
    obtain rfl : n = 0 := by simpa using hn
    refine Ev.step (fun k => by rw [spec_l1Sdnv.l0]) ?_
    simp only [if_neg (show ¬ ((0 : Nat) : Int) > 0 by omega), sevens]
    exact Ev.now' (by simp)
  | succ d ih =>
    intro n xs hn hb hl
    refine Ev.step (fun k => by rw [spec_l1Sdnv.l0]) ?_
    by_cases h0 : n = 0
    · subst h0
      simp only [if_neg (show ¬ ((0 : Nat) : Int) > 0 by omega), sevens, if_true]
      exact Ev.now' (by simp)
    · refine Ev.ite_pos (by omega) ?_
      refine Ev.some_bind ?_
      have e : Go.bits .or .u8 (Go.bits .and .i64 (n : Int) 127 % 256) 128 = ((n % 128 + 128 : Nat) : Int) := by
        rw [and127_i64 (by omega) (by omega), Int.emod_eq_of_lt (b := 256) (by omega) (by omega), or128_u8 (by omega) (by omega)]
        omega
      have e2 : ((n : Int) / 128) = ((n / 128 : Nat) : Int) := by omega
      rw [e, e2]
      simp only [strOfNums_size]
      refine Ev.ite_pos (by simp; omega) ?_
      have := ih (n / 128) (xs ++ [((n % 128 + 128 : Nat) : Int)]) (by rw [Nat.pow_succ] at hn; exact Nat.div_lt_of_lt_mul (by omega)) (by omega) (by simp; omega)
      rw [← strOfNums_append]
      simpa [sevens, h0] using this
theorem specSdnv (n : Nat) (hn : n ≤ 9223372036854775807) : Ev (fun k => spec_l1Sdnv.f k (n : Int)) (sdnvText n) := by
  have := specSdnv_go 10 (n / 128) [((n % 128 : Nat) : Int)] (by omega) (by omega) (by simp)
  have e : Go.bits .and .i64 (n : Int) 127 % 256 = ((n % 128 : Nat) : Int) := by
    rw [and127_i64 (by omega) (by omega)]; omega
  have e2 : ((n : Int) / 128) = ((n / 128 : Nat) : Int) := by omega
  simp only [spec_l1Sdnv.f, e, e2, sdnvText]
  simpa using this
theorem implSdnv_go (d : Nat) : ∀ (n : Nat) (xs : List Int), n < 128 ^ d → n ≤ 9223372036854775807 → xs.length + d ≤ 100 → Ev (fun k => impl_sdnv.l0 k (n : Int) xs) (strOfNums (xs ++ sevens d n).reverse) := by
  induction d with
  | zero =>
    intro n xs hn hb hl
    obtain rfl : n = 0 := by simpa using hn
    refine Ev.step (fun k => by rw [impl_sdnv.l0]) ?_
    simp only [if_neg (show ¬ ((0 : Nat) : Int) > 0 by omega), sevens]
    refine Ev.bind (reverse_all xs (by omega)) ?_
    exact Ev.now' (by simp)
  | succ d ih =>
    intro n xs hn hb hl
    refine Ev.step (fun k => by rw [impl_sdnv.l0]) ?_
    by_cases h0 : n = 0
    · subst h0
      simp only [if_neg (show ¬ ((0 : Nat) : Int) > 0 by omega), sevens, if_true]
      refine Ev.bind (reverse_all xs (by omega)) ?_
      exact Ev.now' (by simp)
    · refine Ev.ite_pos (by omega) ?_
      refine Ev.ite_pos (by omega) ?_
      have e : wrap64 (Int.tmod (n : Int) 128 + 128) % 256 = ((n % 128 + 128 : Nat) : Int) := by
        rw [Int.tmod_eq_emod_of_nonneg (by omega), w64 (by omega) (by omega)]
        omega
      have e2 : wrap64 (Int.tdiv (n : Int) 128) = ((n / 128 : Nat) : Int) := by
        rw [Int.tdiv_eq_ediv_of_nonneg (by omega), w64 (by omega) (by omega)]
        omega
      rw [e, e2]
      have := ih (n / 128) (xs ++ [((n % 128 + 128 : Nat) : Int)]) (by rw [Nat.pow_succ] at hn; exact Nat.div_lt_of_lt_mul (by omega)) (by omega) (by simp; omega)
      simpa [sevens, h0] using this
theorem implSdnv (n : Nat) (hn : n ≤ 9223372036854775807) : Ev (fun k => impl_sdnv.f k (n : Int)) (sdnvText n) := by
  have := implSdnv_go 10 (n / 128) [((n % 128 : Nat) : Int)] (by omega) (by omega) (by simp)
  have e : Int.tmod (n : Int) 128 % 256 = ((n % 128 : Nat) : Int) := by
    rw [Int.tmod_eq_emod_of_nonneg (by omega)]; omega
  have e2 : wrap64 (Int.tdiv (n : Int) 128) = ((n / 128 : Nat) : Int) := by
    rw [Int.tdiv_eq_ediv_of_nonneg (by omega), w64 (by omega) (by omega)]
    omega
  simp only [impl_sdnv.f, e, e2, sdnvText]
  simpa using this
theorem specIn (a b c : Int) : spec_l1In.f a b c = some (decide (b ≤ a ∧ a ≤ c)) := by
  unfold spec_l1In.f
  by_cases h : b ≤ a <;> simp [h]
theorem specValue (a : Int) : spec_l1Value.f a = some (decide (0 ≤ a ∧ a ≤ 1000000000)) := by
  simp [spec_l1Value.f, specIn]
theorem implWithin (a b c : Int) : impl_within.f a b c = some (decide (b ≤ a ∧ a ≤ c)) := by
  unfold impl_within.f
  by_cases h : b ≤ a <;> simp [h]
theorem implValue (a : Int) : impl_isValue.f a = some (decide (0 ≤ a ∧ a ≤ 1000000000)) := by
  simp [impl_isValue.f, implWithin]

theorem toIntS_go (l : List Int) (hl : l.length ≤ 35184372088832) (d : Nat) : ∀ i : Nat, i ≤ l.length → l.length - i = d → Ev (fun k => laws_toIntS.l0 k l (l.take i ++ List.replicate (l.length - i) 0) (i : Int)) l := by
  induction d with
  | zero =>
    intro i h0 hd
    obtain rfl : i = l.length := by omega
    refine Ev.step (fun k => by rw [laws_toIntS.l0]) ?_
    simp only [if_neg (show ¬ (l.length : Int) < (l.length : Int) by omega)]
    exact Ev.now' (by simp)
  | succ d ih =>
    intro i h0 hd
    have hlt : i < l.length := by omega
    refine Ev.step (fun k => by rw [laws_toIntS.l0]) ?_
    have hlen : (l.take i ++ List.replicate (l.length - i) (0 : Int)).length = l.length := by simp; omega
    simp only [if_pos (show (i : Int) < (l.length : Int) by omega), if_pos (show (0 : Int) ≤ (i : Int) by omega), hlen, w64 (show -9223372036854775808 ≤ (i : Int) + 1 by omega) (show (i : Int) + 1 ≤ 9223372036854775807 by omega), rd_eq l i hlt, Int.toNat_natCast, fill_step l 0 i hlt]
    exact ih (i + 1) (by omega) (by omega)
theorem toIntS_self (l : List Int) (hl : l.length ≤ 35184372088832) : Ev (fun k => laws_toIntS.f k l) l := by
  have := toIntS_go l hl l.length 0 (by omega) (by omega)
  simp only [laws_toIntS.f, if_pos (show (0 : Int) ≤ (l.length : Int) by omega), Int.toNat_natCast, if_pos hl]
  simpa using this
theorem eqIntS_go (l : List Int) (hl : l.length ≤ 4611686018427387904) (d : Nat) : ∀ i : Int, 0 ≤ i → (l.length : Int) - i = d → Ev (fun k => laws_eqIntS.l0 k l l i) true := by
  induction d with
  | zero =>
    intro i h0 hd
    refine Ev.step (fun k => by rw [laws_eqIntS.l0]) ?_
    simp only [if_neg (show ¬ i < (l.length : Int) by omega)]
    exact Ev.now _
  | succ d ih =>
    intro i h0 hd
    refine Ev.step (fun k => by rw [laws_eqIntS.l0]) ?_
    simp only [if_pos (show i < (l.length : Int) by omega), if_pos h0, if_true, w64 (show -9223372036854775808 ≤ i + 1 by omega) (show i + 1 ≤ 9223372036854775807 by omega)]
    exact ih (i + 1) (by omega) (by omega)
theorem eqIntS_self (l : List Int) (hl : l.length ≤ 4611686018427387904) : Ev (fun k => laws_eqIntS.f k l l) true := by
  simp only [laws_eqIntS.f, if_true]
  exact eqIntS_go l hl l.length 0 (by omega) (by omega)
theorem sdnvList_spec_go (l : List Int) (hl : l.length ≤ 1048576) (d : Nat) : ∀ (i : Nat) (t : ByteArray), i ≤ l.length → l.length - i = d → t.size ≤ 11 * i →
    (∃ u, Ev (fun k => spec_SdnvList.l0 k l t l (l.length : Int) (i : Int)) (if l.length > 40 then ((⟨#[]⟩ : ByteArray), false) else u) ∧ Ev (fun k => impl_SdnvList.l0 k t l (l.length : Int) (i : Int)) u) := by
  induction d with
  | zero =>
    intro i t h0 hd ht
    refine ⟨(t, true), ?_, ?_⟩
    · refine Ev.step (fun k => by rw [spec_SdnvList.l0]) ?_
      refine Ev.ite_neg (by omega) ?_
      by_cases h : l.length > 40
      · rw [if_pos h]; exact Ev.ite_pos (by omega) (Ev.now _)
      · rw [if_neg h]; exact Ev.ite_neg (by omega) (Ev.now _)
    · refine Ev.step (fun k => by rw [impl_SdnvList.l0]) ?_
      exact Ev.ite_neg (by omega) (Ev.now _)
  | succ d ih =>
    intro i t h0 hd ht
    have hi : i < l.length := by omega
    have hp : (i : Int) < (l.length : Int) := by omega
    have hz : (0 : Int) ≤ (i : Int) := by omega
    have ew : wrap64 ((i : Int) + 1) = ((i + 1 : Nat) : Int) := by rw [w64 (by omega) (by omega)]; omega
    by_cases hv : 0 ≤ rd l (i : Int) ∧ rd l (i : Int) ≤ 1000000000
    · obtain ⟨n, hn⟩ := Int.eq_ofNat_of_zero_le hv.1
      rw [hn] at hv
      have hs := sdnvText_size n
      obtain ⟨u, a, b⟩ := ih (i + 1) (t ++ sdnvText n) (by omega) (by omega) (by rw [ByteArray.size_append]; omega)
      have hsum : t.size + (sdnvText n).size ≤ 9223372036854775807 := by omega
      have hn' : n ≤ 9223372036854775807 := by omega
      refine ⟨u, ?_, ?_⟩
      · refine Ev.step (fun k => by rw [spec_SdnvList.l0]) ?_
        refine Ev.ite_pos hp (Ev.ite_pos hz (Ev.ite_pos hp ?_))
        rw [hn, specValue]
        simp only [Option.bind_some, hv, and_self, decide_true, if_true]
        refine Ev.bind (specSdnv n hn') ?_
        refine Ev.ite_pos hsum ?_
        rw [ew]; exact a
      · refine Ev.step (fun k => by rw [impl_SdnvList.l0]) ?_
        refine Ev.ite_pos hp (Ev.ite_pos hz (Ev.ite_pos hp ?_))
        rw [hn, implValue]
        simp only [Option.bind_some, hv, and_self, decide_true, if_true]
        refine Ev.bind (implSdnv n hn') ?_
        refine Ev.ite_pos hsum ?_
        rw [ew]; exact b
    · refine ⟨((⟨#[]⟩ : ByteArray), false), ?_, ?_⟩
      · refine Ev.step (fun k => by rw [spec_SdnvList.l0]) ?_
        refine Ev.ite_pos hp (Ev.ite_pos hz (Ev.ite_pos hp ?_))
        rw [specValue]
        simp only [Option.bind_some, hv, decide_false]
        simp
        exact Ev.now _
      · refine Ev.step (fun k => by rw [impl_SdnvList.l0]) ?_
        refine Ev.ite_pos hp (Ev.ite_pos hz (Ev.ite_pos hp ?_))
        rw [implValue]
        simp only [Option.bind_some, hv, decide_false]
        simp
        exact Ev.now _
theorem FnExactSdnvList : Go.Proofs.Ytjafmdilgpnbaaa.GoalFnExactSdnvList.Goal := by
  intro l _ _ _
  refine Ev.rounds ?_
  simp only [laws_FnExactSdnvList.f]
  refine Ev.ite (fun _ => Ev.now _) fun hsz => ?_
  have hl : l.length ≤ 1048576 := by omega
  obtain ⟨u, a, b⟩ := sdnvList_spec_go l hl l.length 0 (⟨#[]⟩ : ByteArray) (by omega) (by omega) (by decide)
  refine Ev.bind (toIntS_self l (by omega)) ?_
  have sp : Ev (fun k => spec_SdnvList.f k l) (if l.length > 40 then ((⟨#[]⟩ : ByteArray), false) else u) := a
  have ip : Ev (fun k => impl_SdnvList.f k l) (if l.length > 40 then ((⟨#[]⟩ : ByteArray), false) else u) := by
    simp only [impl_SdnvList.f]
    by_cases h : l.length > 40
    · rw [if_pos h]; exact Ev.ite_pos (by omega) (Ev.now _)
    · rw [if_neg h]; exact Ev.ite_neg (by omega) b
  refine Ev.bind sp ?_
  refine Ev.bind (toIntS_self l (by omega)) ?_
  refine Ev.bind ip ?_
  simp only [if_true]
  refine Ev.step (fun k => by rw [laws_FnExactSdnvList.j0]) ?_
  refine Ev.ite_neg (by simp) ?_
  refine Ev.bind (toIntS_self l (by omega)) ?_
  refine Ev.bind (eqIntS_self l (by omega)) ?_
  exact Ev.now' (by simp)

end Go.Proofs.Ytjafmdilgpnbaaa.Pure
