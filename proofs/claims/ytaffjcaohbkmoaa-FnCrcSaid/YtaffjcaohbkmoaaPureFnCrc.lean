/- What the printed program answers at this law is true, for every argument. -/
import Derived.Test.YtaffjcaohbkmoaaQFnCrcx3
import Derived.Test.YtaffjcaohbkmoaaPlain
import Derived.Test.YtaffjcaohbkmoaaGoalFnCrc
set_option linter.unusedVariables false
set_option linter.unusedSimpArgs false
namespace Go.Proofs.Ytaffjcaohbkmoaa.Pure
open Go.RowKit Go.Proofs.Ytaffjcaohbkmoaa.QFnCrc Go.Proofs.YtaffjcaohbkmoaaW.PrintWords Go.Proofs.YtaffjcaohbkmoaaW.PrintLast Go.Proofs.Ytaffjcaohbkmoaa.Plain Go.Proofs.Ytaffjcaohbkmoaa.GoalFnCrc

theorem crc_go (n : Nat) : ∀ (x : Nat) (i : Int), x < 65536 → 0 ≤ i → i ≤ 8 → 8 - i = n → Ev (fun k => spec_l1Crc.l0 k (x : Int) i) (crcRounds n x : Int) ∧ Ev (fun k => impl_crcAdd.l0 k (x : Int) i) (crcRounds n x : Int) := by
  induction n with
  | zero =>
    intro x i hx h0 h1 hn
    constructor
    · refine Ev.step (fun k => by rw [spec_l1Crc.l0]) ?_
      simp only [if_neg (show ¬ i < 8 by omega), crcRounds]
      exact Ev.now _
    · refine Ev.step (fun k => by rw [impl_crcAdd.l0]) ?_
      simp only [if_neg (show ¬ i < 8 by omega), crcRounds]
      exact Ev.now _
  | succ n ih =>
    intro x i hx h0 h1 hn
    have hw : wrap64 (i + 1) = i + 1 := w64 (by omega) (by omega)
    have hw2 : wrap64 ((x : Int) * 2) = ((2 * x : Nat) : Int) := by rw [w64 (by omega) (by omega)]; omega
    obtain ⟨a, b⟩ := ih (crcRound x) (i + 1) (crcRound_lt hx) (by omega) (by omega) (by omega)
    have e : (if ((2 * x : Nat) : Int) > 65535 then Go.bits .xor .i64 ((2 * x : Nat) : Int) 69665 else ((2 * x : Nat) : Int)) = (crcRound x : Int) := by
      unfold crcRound
      by_cases h : 65535 < 2 * x
      · rw [if_pos (by omega), if_pos h]
        exact xor_i64 (2 * x) 69665 (by omega) (by omega)
      · rw [if_neg (by omega), if_neg h]
    constructor
    · refine Ev.step (fun k => by rw [spec_l1Crc.l0]) ?_
      simp only [if_pos (show i < 8 by omega), hw, hw2]
      by_cases h : ((2 * x : Nat) : Int) > 65535
      · simp only [if_pos h] at e ⊢
        rw [e]; simpa only [crcRounds] using a
      · simp only [if_neg h] at e ⊢
        rw [e]; simpa only [crcRounds] using a
    · refine Ev.step (fun k => by rw [impl_crcAdd.l0]) ?_
      simp only [if_pos (show i < 8 by omega), hw, hw2]
      by_cases h : ((2 * x : Nat) : Int) > 65535
      · simp only [if_pos h] at e ⊢
        rw [e]; simpa only [crcRounds] using b
      · simp only [if_neg h] at e ⊢
        rw [e]; simpa only [crcRounds] using b
theorem crc_one (x b : Nat) (hx : x < 65536) (hb : b < 256) : Ev (fun k => spec_l1Crc.f k (x : Int) (b : Int)) (crcByte x b : Int) ∧ Ev (fun k => impl_crcAdd.f k (x : Int) (b : Int)) (crcByte x b : Int) := by
  have := crc_go 8 (x ^^^ (b * 256)) 0 (xor_byte_lt hx hb) (by omega) (by omega) (by omega)
  simp only [spec_l1Crc.f, impl_crcAdd.f, w64 (show -9223372036854775808 ≤ (b : Int) by omega) (show (b : Int) ≤ 9223372036854775807 by omega)]
  have e1 : wrap64 ((b : Int) * 256) = ((b * 256 : Nat) : Int) := by rw [w64 (by omega) (by omega)]; omega
  have e2 : wrap64 (256 * (b : Int)) = ((b * 256 : Nat) : Int) := by rw [w64 (by omega) (by omega)]; omega
  rw [e1, e2, xor_i64 x (b * 256) (by omega) (by omega)]
  exact this
theorem crcOf_go (s : ByteArray) (hs : s.size ≤ 4611686018427387904) (n : Nat) : ∀ (x i : Nat), x < 65536 → i ≤ s.size → s.size - i = n →
    Ev (fun k => spec_l1CrcOf.l0 k s (x : Int) (i : Int)) (crcOver x (s.data.toList.drop i) : Int) ∧ Ev (fun k => impl_crcOf.l0 k s (x : Int) (s.size : Int) (i : Int)) (crcOver x (s.data.toList.drop i) : Int) := by
  induction n with
  | zero =>
    intro x i hx h0 hn
    have e : s.data.toList.drop i = [] := List.drop_eq_nil_of_le (by rw [size_data]; omega)
    rw [e]
    constructor
    · refine Ev.step (fun k => by rw [spec_l1CrcOf.l0]) ?_
      simp only [if_neg (show ¬ (i : Int) < (s.size : Int) by omega)]
      exact Ev.now _
    · refine Ev.step (fun k => by rw [impl_crcOf.l0]) ?_
      simp only [if_neg (show ¬ (i : Int) < (s.size : Int) by omega)]
      exact Ev.now _
  | succ n ih =>
    intro x i hx h0 hn
    have hi : i < s.size := by omega
    have hw : wrap64 ((i : Int) + 1) = ((i + 1 : Nat) : Int) := by rw [w64 (by omega) (by omega)]; omega
    have hb : bt s (i : Int) = (s[i].toNat : Int) := by simp [bt, hi]
    have e : s.data.toList.drop i = s[i] :: s.data.toList.drop (i + 1) := List.drop_eq_getElem_cons (by rw [size_data]; exact hi)
    obtain ⟨p, q⟩ := crc_one x s[i].toNat hx s[i].toNat_lt
    obtain ⟨a, b⟩ := ih (crcByte x s[i].toNat) (i + 1) (crcByte_lt hx s[i].toNat_lt) (by omega) (by omega)
    rw [e]
    simp only [crcOver, List.foldl_cons] at a b ⊢
    constructor
    · refine Ev.step (fun k => by rw [spec_l1CrcOf.l0]) ?_
      simp only [if_pos (show (i : Int) < (s.size : Int) by omega), if_pos (show (0 : Int) ≤ (i : Int) by omega), hw, hb]
      exact Ev.bind p a
    · refine Ev.step (fun k => by rw [impl_crcOf.l0]) ?_
      simp only [if_pos (show (i : Int) < (s.size : Int) by omega), if_pos (show (0 : Int) ≤ (i : Int) by omega), hw, hb]
      exact Ev.bind q b
/-- The sum of a text. -/
def crcText (s : ByteArray) : Nat := crcOver 65535 s.data.toList
theorem crcText_lt (s : ByteArray) : crcText s < 65536 := crcOver_lt _ (by omega)
theorem crcOf_both (s : ByteArray) (hs : s.size ≤ 4611686018427387904) : Ev (fun k => spec_l1CrcOf.f k s) (crcText s : Int) ∧ Ev (fun k => impl_crcOf.f k s) (crcText s : Int) := by
  simp only [spec_l1CrcOf.f, impl_crcOf.f]
  exact crcOf_go s hs s.size 65535 0 (by omega) (by omega) (by omega)
/-- A text with its sum behind it. -/
def withSum (s : ByteArray) : ByteArray := s ++ strOfNums [(crcText s : Int) / 256 % 256, (crcText s : Int) % 256]
theorem specWith (s : ByteArray) (hs : s.size ≤ 4611686018427387904) : Ev (fun k => spec_l1With.f k s) (withSum s) := by
  simp only [spec_l1With.f]
  refine Ev.bind (crcOf_both s hs).1 ?_
  refine Ev.some_bind ?_
  simp only [strOfNums_size]
  refine Ev.ite_pos (by simp; omega) ?_
  exact Ev.now _
theorem implWith (s : ByteArray) (hs : s.size ≤ 398) : Ev (fun k => impl_WithCrc.f k s) (withSum s, true) := by
  simp only [impl_WithCrc.f]
  refine Ev.ite_neg (by omega) ?_
  refine Ev.bind (crcOf_both s (by omega)).2 ?_
  have e : ([wrap64 (Int.tdiv (crcText s : Int) 256) % 256, Int.tmod (crcText s : Int) 256 % 256] : List Int) = [(crcText s : Int) / 256 % 256, (crcText s : Int) % 256] := by
    have h := crcText_lt s
    rw [Int.tdiv_eq_ediv_of_nonneg (by omega), Int.tmod_eq_emod_of_nonneg (by omega), w64 (by omega) (by omega), Int.emod_emod]
  rw [e]
  refine Ev.some_bind ?_
  simp only [strOfNums_size]
  refine Ev.ite_pos (by simp; omega) ?_
  exact Ev.now _
theorem specIn (a b c : Int) : spec_l1In.f a b c = some (decide (b ≤ a ∧ a ≤ c)) := by
  unfold spec_l1In.f
  by_cases h : b ≤ a <;> simp [h]
theorem implWithin (a b c : Int) : impl_within.f a b c = some (decide (b ≤ a ∧ a ≤ c)) := by
  unfold impl_within.f
  by_cases h : b ≤ a <;> simp [h]

/-- What CheckCrc tells of a text. -/
def checked (s : ByteArray) : ByteArray × Bool :=
  if 2 ≤ s.size ∧ s.size ≤ 400 then if withSum (s.extract 0 (s.size - 2)) = s then (s.extract 0 (s.size - 2), true) else (⟨#[]⟩, false) else (⟨#[]⟩, false)
theorem toList_inj {s t : ByteArray} : s.toList = t.toList ↔ s = t := by
  constructor
  · intro h
    rw [ByteArray.toList_eq, ByteArray.toList_eq] at h
    exact str_ext h
  · intro h; rw [h]
theorem specCheck (s : ByteArray) (hs : s.size ≤ 4611686018427387904) : Ev (fun k => spec_CheckCrc.f k s) (checked s) := by
  simp only [spec_CheckCrc.f, specIn, Option.bind_some, checked]
  by_cases h : 2 ≤ s.size ∧ s.size ≤ 400
  · have hw : wrap64 ((s.size : Int) - 2) = ((s.size - 2 : Nat) : Int) := by rw [w64 (by omega) (by omega)]; omega
    have hx : (s.extract 0 (s.size - 2)).size = s.size - 2 := by simp
    simp only [hw, Int.toNat_natCast, show (2 ≤ (s.size : Int) ∧ (s.size : Int) ≤ 400) by omega, and_self, decide_true, if_true, if_pos (show (0 : Int) ≤ ((s.size - 2 : Nat) : Int) by omega), if_pos (show ((s.size - 2 : Nat) : Int) ≤ (s.size : Int) by omega)]
    rw [if_pos h]
    refine Ev.bind (specWith _ (by omega)) ?_
    simp only [toList_inj]
    by_cases e : withSum (s.extract 0 (s.size - 2)) = s
    · simp only [if_pos e]; exact Ev.now _
    · simp only [if_neg e]; exact Ev.now _
  · rw [if_neg h]
    simp only [show ¬ (2 ≤ (s.size : Int) ∧ (s.size : Int) ≤ 400) by omega, decide_false]
    simp
    exact Ev.now _
theorem implCheck (s : ByteArray) (hs : s.size ≤ 4611686018427387904) : Ev (fun k => impl_CheckCrc.f k s) (checked s) := by
  have hw : wrap64 ((s.size : Int) - 2) = (s.size : Int) - 2 := by rw [w64 (by omega) (by omega)]
  simp only [impl_CheckCrc.f, implWithin, Option.bind_some, checked, hw]
  by_cases h : 2 ≤ s.size ∧ s.size ≤ 400
  · have hw2 : (s.size : Int) - 2 = ((s.size - 2 : Nat) : Int) := by omega
    have hx : (s.extract 0 (s.size - 2)).size = s.size - 2 := by simp
    simp only [hw2, Int.toNat_natCast, show ((0 : Int) ≤ ((s.size - 2 : Nat) : Int) ∧ ((s.size - 2 : Nat) : Int) ≤ 398) by omega, and_self, decide_true, if_true, if_pos (show (0 : Int) ≤ ((s.size - 2 : Nat) : Int) by omega), if_pos (show ((s.size - 2 : Nat) : Int) ≤ (s.size : Int) by omega)]
    rw [if_pos h]
    refine Ev.bind (implWith _ (by omega)) ?_
    simp only [toList_inj]
    by_cases e : withSum (s.extract 0 (s.size - 2)) = s
    · simp only [if_pos e]; exact Ev.now _
    · simp only [if_neg e]; exact Ev.now _
  · rw [if_neg h]
    simp only [show ¬ (0 ≤ (s.size : Int) - 2 ∧ (s.size : Int) - 2 ≤ 398) by omega, decide_false]
    simp
    exact Ev.now _
/-- The two bytes of a sum. -/
def tl (x : Nat) : List UInt8 := [UInt8.ofNat ((x : Int) / 256 % 256).toNat, UInt8.ofNat ((x : Int) % 256).toNat]
theorem tl_inj {x y : Nat} (hx : x < 65536) (hy : y < 65536) (h : tl x = tl y) : x = y := by
  unfold tl at h
  injection h with h1 h2
  injection h2 with h2 _
  have a := congrArg UInt8.toNat h1
  have b := congrArg UInt8.toNat h2
  simp only [UInt8.toNat_ofNat'] at a b
  omega
theorem withSum_list (u : ByteArray) : (withSum u).data.toList = u.data.toList ++ tl (crcOver 65535 u.data.toList) := by
  unfold withSum
  rw [ByteArray.data_append, Array.toList_append, strOfNums_data]
  rfl
theorem crcOver_append (x : Nat) (a b : List UInt8) : crcOver x (a ++ b) = crcOver (crcOver x a) b := by simp [crcOver]
theorem crcOver_cons (x : Nat) (b : UInt8) (l : List UInt8) : crcOver x (b :: l) = crcOver (crcByte x b.toNat) l := by simp [crcOver]
theorem crcOver_set_inj (U : List UInt8) (j : Nat) (hj : j < U.length) (v : UInt8) (h : crcOver 65535 (U.set j v) = crcOver 65535 U) : v = U[j] := by
  have e1 : U = U.take j ++ (U[j] :: U.drop (j + 1)) := by simp
  have e2 : U.set j v = U.take j ++ (v :: U.drop (j + 1)) := by rw [List.set_eq_take_append_cons_drop, if_pos hj]
  rw [e2] at h
  have h2 : crcOver 65535 (U.take j ++ (v :: U.drop (j + 1))) = crcOver 65535 (U.take j ++ (U[j] :: U.drop (j + 1))) := by rw [h]; exact congrArg _ e1
  rw [crcOver_append, crcOver_append, crcOver_cons, crcOver_cons] at h2
  have c : crcOver 65535 (U.take j) < 65536 := crcOver_lt _ (by omega)
  generalize crcOver 65535 (U.take j) = X at h2 c
  have h3 := crcOver_inj (U.drop (j + 1)) (crcByte_lt c (UInt8.toNat_lt v)) (crcByte_lt c (UInt8.toNat_lt U[j])) h2
  exact UInt8.toNat_inj.mp (crcByte_inj_right c (UInt8.toNat_lt _) (UInt8.toNat_lt _) h3)
theorem list_turned (U V : List UInt8) (j : Nat) (v : UInt8) (hl : V.length = U.length) (hj : j < (U ++ tl (crcOver 65535 U)).length) (hne : v ≠ (U ++ tl (crcOver 65535 U))[j]) (e : V ++ tl (crcOver 65535 V) = (U ++ tl (crcOver 65535 U)).set j v) : False := by
  by_cases c : j < U.length
  · rw [List.set_append_left _ _ c] at e
    obtain ⟨e1, e2⟩ := List.append_inj e (by simp [hl])
    have e3 := tl_inj (crcOver_lt V (by omega)) (crcOver_lt U (by omega)) e2
    rw [e1] at e3
    have := crcOver_set_inj U j c v e3
    rw [List.getElem_append_left c] at hne
    exact hne this
  · rw [List.set_append_right _ _ (by omega)] at e
    obtain ⟨e1, e2⟩ := List.append_inj e hl
    rw [e1] at e2
    rw [List.getElem_append_right (by omega)] at hne
    rw [List.length_append] at hj
    have h2 : j - U.length < (tl (crcOver 65535 U)).length := by omega
    have h3 : ((tl (crcOver 65535 U)).set (j - U.length) v)[j - U.length]'(by rw [List.length_set]; exact h2) = v := List.getElem_set_self _
    have h4 : ∀ (l : List UInt8) (hl : j - U.length < l.length), l = tl (crcOver 65535 U) → l[j - U.length] = (tl (crcOver 65535 U))[j - U.length] := by
      intro l hl e; subst e; rfl
    exact hne (h3.symm.trans (h4 _ (by rw [List.length_set]; exact h2) e2.symm))
theorem bytesOf_set (s : ByteArray) (j : Nat) (b : Int) : (strOfNums ((bytesOf s).set j b)).data.toList = s.data.toList.set j (UInt8.ofNat b.toNat) := by
  rw [strOfNums_data, bytesOf, List.map_set, List.map_map]
  have : ((fun n : Int => UInt8.ofNat n.toNat) ∘ fun b : UInt8 => (b.toNat : Int)) = id := by funext x; simp
  rw [this, List.map_id]
/-- One byte of a text with its sum turned: it is seen. -/
theorem turned_no (u : ByteArray) (j : Nat) (hj : j < (withSum u).size) (b : Int) (hb0 : 0 ≤ b) (hb1 : b < 256) (hne : b ≠ rd (bytesOf (withSum u)) (j : Int)) : (checked (strOfNums ((bytesOf (withSum u)).set j b))).2 = false := by
  unfold checked
  by_cases c : 2 ≤ (strOfNums ((bytesOf (withSum u)).set j b)).size ∧ (strOfNums ((bytesOf (withSum u)).set j b)).size ≤ 400
  case neg => rw [if_neg c]
  rw [if_pos c]
  by_cases e : withSum ((strOfNums ((bytesOf (withSum u)).set j b)).extract 0 ((strOfNums ((bytesOf (withSum u)).set j b)).size - 2)) = strOfNums ((bytesOf (withSum u)).set j b)
  case neg => rw [if_neg e]
  exfalso
  have hz : (strOfNums ((bytesOf (withSum u)).set j b)).size = u.size + 2 := by
    rw [strOfNums_size, List.length_set, bytesOf_length, withSum, ByteArray.size_append, strOfNums_size]; rfl
  have e1 := congrArg (fun s : ByteArray => s.data.toList) e
  rw [withSum_list, bytesOf_set, withSum_list] at e1
  have hj' : j < (u.data.toList ++ tl (crcOver 65535 u.data.toList)).length := by rw [← withSum_list]; exact hj
  refine list_turned u.data.toList _ j (UInt8.ofNat b.toNat) ?_ hj' ?_ e1
  · rw [size_data, size_data, ByteArray.size_extract]; omega
  · intro h
    apply hne
    have h2 : j < (bytesOf (withSum u)).length := by rw [bytesOf_length]; exact hj
    rw [rd_eq _ j h2]
    have h3 : (withSum u).data.toList[j]'(by rw [withSum_list]; exact hj') = UInt8.ofNat b.toNat := by
      rw [h]; congr 1
    simp only [bytesOf, List.getElem_map]
    rw [h3, UInt8.toNat_ofNat']
    omega
theorem checked_fwd (u : ByteArray) (hu : u.size ≤ 398) : checked (withSum u) = (u, true) := by
  have hz : (withSum u).size = u.size + 2 := by rw [withSum, ByteArray.size_append, strOfNums_size]; rfl
  have hx : (withSum u).extract 0 ((withSum u).size - 2) = u := by
    apply str_ext
    rw [hz, ByteArray.data_extract, Array.toList_extract, withSum_list]
    have : u.data.toList.length = u.size := size_data u
    simp only [List.extract, List.drop_zero, Nat.sub_zero, Nat.add_sub_cancel]
    rw [← this]
    exact List.take_left
  unfold checked
  rw [if_pos (by omega), hx, if_pos rfl]
theorem withCrc_both (s : ByteArray) (hs : s.size ≤ 1000) :
    (s.size ≤ 398 ∧ Ev (fun k => spec_WithCrc.f k s) (withSum s, true) ∧ Ev (fun k => impl_WithCrc.f k s) (withSum s, true)) ∨
      (398 < s.size ∧ Ev (fun k => spec_WithCrc.f k s) ((⟨#[]⟩ : ByteArray), false) ∧ Ev (fun k => impl_WithCrc.f k s) ((⟨#[]⟩ : ByteArray), false)) := by
  by_cases h : s.size ≤ 398
  · refine .inl ⟨h, ?_, implWith s h⟩
    simp only [spec_WithCrc.f]
    exact Ev.ite_neg (by omega) (Ev.bind (specWith s (by omega)) (Ev.now _))
  · refine .inr ⟨by omega, ?_, ?_⟩
    · simp only [spec_WithCrc.f]
      exact Ev.ite_pos (by omega) (Ev.now _)
    · simp only [impl_WithCrc.f]
      exact Ev.ite_pos (by omega) (Ev.now _)
theorem crcOf_told (s : ByteArray) (hs : s.size ≤ 1000) :
    ∃ v : Int × Bool, Ev (fun k => spec_CrcOf.f k s) v ∧ Ev (fun k => impl_CrcOf.f k s) v ∧ (s.size ≤ 400 → v = ((crcText s : Int), true)) := by
  simp only [spec_CrcOf.f, impl_CrcOf.f]
  have c := crcOf_both s (by omega)
  by_cases h : (s.size : Int) > 400
  · exact ⟨_, Ev.ite_pos h (Ev.now _), Ev.ite_pos h (Ev.now _), fun h2 => by omega⟩
  · exact ⟨_, Ev.ite_neg h (Ev.bind c.1 (Ev.now _)), Ev.ite_neg h (Ev.bind c.2 (Ev.now _)), fun _ => rfl⟩
/-- The bytes that a draw reads. -/
def Code (c : List Int) : Prop := c.length ≤ 140737488355328 ∧ ∀ x ∈ c, 0 ≤ x ∧ x ≤ 255
theorem code_of {l : List Int} (h0 : l.length * 1 ≤ 140737488351232) (h : ∀ x ∈ l, (Lit.int .u8 x).wf = true) : Code l := ⟨by omega, fun x hx => wf_u8 (h x hx)⟩
theorem Code.rd {c : List Int} (h : Code c) (i : Int) : 0 ≤ rd c i ∧ rd c i ≤ 255 := by
  unfold Go.Proofs.YtaffjcaohbkmoaaW.PrintWords.rd
  rw [List.getD_eq_getElem?_getD]
  by_cases hi : i.toNat < c.length
  · rw [List.getElem?_eq_getElem hi]
    exact h.2 _ (List.getElem_mem hi)
  · rw [List.getElem?_eq_none (by omega)]
    simp
theorem u64_wraps (n : Int) (h0 : 0 ≤ n) (h1 : n < 2 ^ 64) : IntKind.u64.wrap n = n := by
  have e : IntKind.u64.wrap n = n % 18446744073709551616 := by simp [IntKind.wrap, IntKind.bits, IntKind.signed]
  rw [e]; omega
theorem u64_bd (n : Int) : 0 ≤ IntKind.u64.wrap n ∧ IntKind.u64.wrap n < 2 ^ 64 := by
  have e : IntKind.u64.wrap n = n % 18446744073709551616 := by simp [IntKind.wrap, IntKind.bits, IntKind.signed]
  rw [e]; omega
theorem low_byte (n : Int) : 0 ≤ wrap64 (Go.bits .and .u64 (IntKind.u64.wrap n / 1099511627776) 255) ∧ wrap64 (Go.bits .and .u64 (IntKind.u64.wrap n / 1099511627776) 255) ≤ 255 := by
  obtain ⟨h0, h1⟩ := u64_bd n
  generalize IntKind.u64.wrap n = x at h0 h1 ⊢
  have := bits_mask .u64 64 (by decide) u64_wraps 8 (by omega) (x / 1099511627776) (by omega) (by omega)
  have e : Go.bits .and .u64 (x / 1099511627776) 255 = (x / 1099511627776) % 256 := by simpa using this
  rw [e, w64 (by omega) (by omega)]
  omega
theorem next_val {c : List Int} (hc : Code c) {p : Int} (s : Int) (h0 : 0 ≤ p) (h1 : p ≤ 4611686018427387904) :
    ∃ b s', spec_l1Cur_next.f c p s = some (b, p + 1, s') ∧ 0 ≤ b ∧ b ≤ 255 := by
  have hl := hc.1
  have hw : wrap64 (p + 1) = p + 1 := w64 (by omega) (by omega)
  unfold spec_l1Cur_next.f
  rw [hw]
  by_cases hp : p < (c.length : Int)
  · rw [if_pos hp, if_pos h0, if_pos (show p + 1 ≤ (c.length : Int) by omega)]
    have hr := hc.rd p
    refine ⟨_, _, rfl, ?_⟩
    rw [w64 (by omega) (by omega)]
    exact hr
  · rw [if_neg hp, if_neg (show ¬ p + 1 ≤ (c.length : Int) by omega)]
    exact ⟨_, _, rfl, low_byte _⟩
theorem pick_val {c : List Int} (hc : Code c) {p : Int} (s n : Int) (h0 : 0 ≤ p) (h1 : p ≤ 4611686018427387903) :
    ∃ v p' s', spec_l1Cur_pick.f c p s n = some (v, p', s') ∧ 0 ≤ v ∧ (v < n ∨ n ≤ 1 ∧ v = 0) ∧ p ≤ p' ∧ p' ≤ p + 2 := by
  unfold spec_l1Cur_pick.f
  by_cases hn : n ≤ 1
  · rw [if_pos hn]
    exact ⟨0, p, s, rfl, by omega, .inr ⟨hn, rfl⟩, by omega, by omega⟩
  · rw [if_neg hn]
    obtain ⟨b, s', e, b0, b1⟩ := next_val hc s h0 (by omega)
    rw [e, Option.bind_some]
    by_cases h2 : n > 200
    · rw [if_pos h2]
      obtain ⟨b2, s2, e2, b20, b21⟩ := next_val hc (p := p + 1) s' (by omega) (by omega)
      simp only
      rw [e2, Option.bind_some, if_neg (show ¬ n = 0 by omega)]
      refine ⟨_, _, _, rfl, ?_, .inl ?_, by simp only; omega, by simp only; omega⟩
      · rw [w64 (x := b * 256) (by omega) (by omega), w64 (by omega) (by omega), Int.tmod_eq_emod_of_nonneg (by omega)]
        exact Int.emod_nonneg _ (by omega)
      · rw [w64 (x := b * 256) (by omega) (by omega), w64 (by omega) (by omega), Int.tmod_eq_emod_of_nonneg (by omega)]
        exact Int.emod_lt_of_pos _ (by omega)
    · rw [if_neg h2]
      simp only
      rw [if_neg (show ¬ n = 0 by omega)]
      refine ⟨_, _, _, rfl, ?_, .inl ?_, by omega, by omega⟩
      · rw [Int.tmod_eq_emod_of_nonneg (by omega)]
        exact Int.emod_nonneg _ (by omega)
      · rw [Int.tmod_eq_emod_of_nonneg (by omega)]
        exact Int.emod_lt_of_pos _ (by omega)
theorem of_val {c : List Int} (hc : Code c) {p : Int} (s : Int) (l : List ByteArray) (hl : 2 ≤ l.length) (hb : l.length ≤ 1000000) (h0 : 0 ≤ p) (h1 : p ≤ 4611686018427387903) :
    ∃ v p' s', spec_l1Cur_of.f c p s l = some (v, p', s') ∧ v ∈ l ∧ p ≤ p' ∧ p' ≤ p + 2 := by
  obtain ⟨v, p', s', e, v0, v1, p0, p1⟩ := pick_val hc s (l.length : Int) h0 h1
  have v2 : v < (l.length : Int) := by omega
  unfold spec_l1Cur_of.f
  rw [e, Option.bind_some]
  simp only
  rw [if_pos v0, if_pos v2]
  obtain ⟨n, rfl⟩ := Int.eq_ofNat_of_zero_le v0
  have hn : n < l.length := by omega
  refine ⟨_, _, _, rfl, ?_, p0, p1⟩
  simp only [rdOf, Int.toNat_natCast]
  rw [List.getD_eq_getElem?_getD, List.getElem?_eq_getElem hn]
  exact List.getElem_mem hn
theorem one_val {c : List Int} (hc : Code c) {p : Int} (s n : Int) (h0 : 0 ≤ p) (h1 : p ≤ 4611686018427387903) :
    ∃ b p' s', spec_l1Cur_one.f c p s n = some (b, p', s') ∧ p ≤ p' ∧ p' ≤ p + 2 := by
  obtain ⟨v, p', s', e, _, _, p0, p1⟩ := pick_val hc s n h0 h1
  unfold spec_l1Cur_one.f
  rw [e, Option.bind_some]
  exact ⟨_, _, _, rfl, p0, p1⟩
theorem text_val {c : List Int} (hc : Code c) (p s : Int) (h0 : 0 ≤ p) (h1 : p ≤ 4611686018427360000) :
    ∃ (t : ByteArray) (p' s' : Int), spec_l1Cur_text.f c p s = some (t, p', s') ∧ t.size ≤ 450 ∧ p ≤ p' ∧ p' ≤ p + 10 := by
  obtain ⟨v1, p1, s1, e1, m1, q1, r1⟩ := of_val hc (p := p) s ([(⟨#[]⟩ : ByteArray), (⟨#[97]⟩ : ByteArray), (⟨#[104, 101, 108, 108, 111]⟩ : ByteArray), (⟨#[0, 255]⟩ : ByteArray), (⟨#[115, 111, 109, 101, 32, 109, 111, 114, 101, 32, 116, 101, 120, 116]⟩ : ByteArray)] : List ByteArray) (by decide) (by decide) h0 (by omega)
  have h9 : v1.size ≤ 14 := by
    simp only [List.mem_cons, List.not_mem_nil, or_false] at m1
    rcases m1 with rfl | rfl | rfl | rfl | rfl <;> decide
  obtain ⟨b, p2, s2, e2, q2, r2⟩ := one_val hc (p := p1) s1 30 (by omega) (by omega)
  unfold spec_l1Cur_text.f
  rw [e1, Option.bind_some]
  simp only
  rw [e2, Option.bind_some]
  cases b with
  | false => exact ⟨v1, p2, s2, by simp, by omega, by omega, by omega⟩
  | true =>
    obtain ⟨v3, p3, s3, e3, v0, v4, q3, r3⟩ := pick_val hc (p := p2) s2 12 (by omega) (by omega)
    have w1 : wrap64 (390 + v3) = 390 + v3 := w64 (by omega) (by omega)
    have hz : (strOfNums (List.replicate (390 + v3 : Int).toNat 0)).size = (390 + v3 : Int).toNat := by rw [strOfNums_size, List.length_replicate]
    simp only [if_true]
    rw [e3, Option.bind_some]
    simp only [w1]
    rw [if_pos (by omega), if_pos (by omega), Option.bind_some, if_pos (by rw [hz]; omega)]
    exact ⟨_, p3, s3, rfl, by rw [ByteArray.size_append, hz]; omega, by omega, by omega⟩
theorem step_w (i : Nat) (h : i ≤ 2000000) : wrap64 ((i : Int) + 1) = ((i + 1 : Nat) : Int) := by rw [w64 (by omega) (by omega)]; omega
theorem sz_ins (t y : ByteArray) (i : Nat) (hi : i < t.size) (hy : y.size = 1) (hb : t.size ≤ 2000000) : (t.extract 0 i).size + y.size ≤ 9223372036854775807 ∧ ((t.extract 0 i).size + y.size) + (t.extract i t.size).size ≤ 9223372036854775807 ∧ ((t.extract 0 i ++ y) ++ t.extract i t.size).size = t.size + 1 := by
  simp only [ByteArray.size_append, ByteArray.size_extract, hy]; omega
theorem sz_put (t y : ByteArray) (i : Nat) (hi : i < t.size) (hy : y.size = 1) (hb : t.size ≤ 2000000) : ((t.extract 0 i).size + y.size) + (t.extract (i + 1) t.size).size ≤ 9223372036854775807 ∧ ((t.extract 0 i ++ y) ++ t.extract (i + 1) t.size).size = t.size := by
  simp only [ByteArray.size_append, ByteArray.size_extract, hy]; omega
theorem sz_del (t : ByteArray) (i : Nat) (hi : i < t.size) (hb : t.size ≤ 2000000) : (t.extract 0 i).size + (t.extract (i + 1) t.size).size ≤ 9223372036854775807 ∧ (t.extract 0 i ++ t.extract (i + 1) t.size).size + 1 = t.size := by
  simp only [ByteArray.size_append, ByteArray.size_extract]; omega
set_option maxHeartbeats 2000000 in
theorem spoilt_go {c : List Int} (hc : Code c) (alts : ByteArray) (h2 : 2 ≤ alts.size) (h3 : alts.size ≤ 1000) (n : Nat) (hn : n ≤ 3) : ∀ (t : ByteArray) (p s : Int), t.size + n ≤ 1000000 → 0 ≤ p → p + 6 * n ≤ 4611686018427380000 →
    ∃ t' p' s', Ev (fun k => spec_l1Cur_spoilt.l0 k t alts (n : Int) c p s) (t', p', s') ∧ t'.size ≤ t.size + n ∧ p ≤ p' ∧ p' ≤ p + 6 * n := by
  induction n with
  | zero =>
    intro t p s _ h0 h1
    refine ⟨t, p, s, Ev.step (fun k => by rw [spec_l1Cur_spoilt.l0]) (Ev.ite_neg (by decide) (Ev.step (fun k => by rw [spec_l1Cur_spoilt.j1]) ?_)), by omega, by omega, by omega⟩
    exact Ev.ite_neg (by decide) (Ev.now _)
  | succ n ih =>
    intro t p s ht h0 h1
    have ihn := ih (by omega)
    have hw : wrap64 (((n + 1 : Nat) : Int) - 1) = (n : Int) := by rw [w64 (by omega) (by omega)]; omega
    have open_ : ∀ {r}, Ev (fun k => spec_l1Cur_spoilt.j1 k t alts ((n + 1 : Nat) : Int) (decide ((t.size : Int) > 0)) c p s) r → Ev (fun k => spec_l1Cur_spoilt.l0 k t alts ((n + 1 : Nat) : Int) c p s) r := fun {r} h => Ev.step (r := r) (fun k => by rw [spec_l1Cur_spoilt.l0]) (Ev.ite_pos (by omega) h)
    by_cases hz : (t.size : Int) > 0
    case neg =>
      rw [decide_eq_false hz] at open_
      refine ⟨t, p, s, open_ (Ev.step (fun k => by rw [spec_l1Cur_spoilt.j1]) ?_), by omega, by omega, by omega⟩
      exact Ev.ite_neg (by decide) (Ev.now _)
    rw [decide_eq_true hz] at open_
    obtain ⟨v, p1, s1, e1, v0, v1, q0, q1⟩ := pick_val hc s (t.size : Int) h0 (by omega)
    obtain ⟨i, rfl⟩ := Int.eq_ofNat_of_zero_le v0
    have hi : i < t.size := by omega
    obtain ⟨v, p2, s2, e2, u0, u1, r0, r1⟩ := pick_val hc (p := p1) s1 (alts.size : Int) (by omega) (by omega)
    have u2 : v < (alts.size : Int) := by omega
    obtain ⟨m, p3, s3, e3, m0, m1, t0, t1⟩ := pick_val hc (p := p2) s2 3 (by omega) (by omega)
    have hb2 : t.size ≤ 2000000 := Nat.le_trans (Nat.le_trans (Nat.le_add_right _ _) ht) (by decide)
    have c1 : (0 : Int) ≤ (i : Int) := Int.natCast_nonneg i
    have c2 : (i : Int) ≤ (t.size : Int) := Int.ofNat_le.mpr (Nat.le_of_lt hi)
    have c3 : (0 : Int) ≤ ((i + 1 : Nat) : Int) := Int.natCast_nonneg _
    have c4 : ((i + 1 : Nat) : Int) ≤ (t.size : Int) := Int.ofNat_le.mpr hi
    have wi := step_w i (Nat.le_trans (Nat.le_of_lt hi) hb2)
    have hy : (strOfNums [bt alts v]).size = 1 := by rw [strOfNums_size, List.length_singleton]
    obtain ⟨y1, y2, y3⟩ := sz_ins t (strOfNums [bt alts v]) i hi hy hb2
    obtain ⟨x1, x2⟩ := sz_put t (strOfNums [bt alts v]) i hi hy hb2
    obtain ⟨d1, d2⟩ := sz_del t i hi hb2
    have ra : p3 ≤ p + 6 := by omega
    have rb : p ≤ p3 := by omega
    have rc : p3 + 6 * (n : Int) ≤ 4611686018427380000 := by omega
    have fin : ∀ t4 : ByteArray, t4.size ≤ t.size + 1 → ∃ t' p' s', Ev (fun k => spec_l1Cur_spoilt.l0 k t4 alts (n : Int) c p3 s3) (t', p', s') ∧ t'.size ≤ t.size + (n + 1) ∧ p ≤ p' ∧ p' ≤ p + 6 * ((n + 1 : Nat) : Int) := fun t4 h4 => by
      obtain ⟨t', p', s', f, f1, f2, f3⟩ := ihn t4 p3 s3 (by omega) (by omega) rc
      exact ⟨t', p', s', f, by omega, by omega, by omega⟩
    obtain ⟨ta, pa, sa, fa, fa1⟩ := fin _ (Nat.le_of_eq y3)
    obtain ⟨tb, pb, sb, fb, fb1⟩ := fin _ (Nat.le_succ_of_le (Nat.le_of_eq x2))
    obtain ⟨tc, pc, sc, fc, fc1⟩ := fin _ (show (t.extract 0 i ++ t.extract (i + 1) t.size).size ≤ t.size + 1 by omega)
    clear fin ihn ih
    by_cases g0 : m = 0
    · refine ⟨ta, pa, sa, open_ (Ev.step (fun k => by rw [spec_l1Cur_spoilt.j1]) (Ev.ite_pos rfl (Ev.opt_bind e1 (Ev.opt_bind e2 (Ev.ite_pos u0 (Ev.ite_pos u2 ?_)))))), fa1⟩
      refine Ev.some_bind ?_
      refine Ev.opt_bind e3 ?_
      simp only [hw, Int.toNat_natCast]
      exact Ev.ite_pos g0 (Ev.ite_pos c1 (Ev.ite_pos c2 (Ev.ite_pos y1 (Ev.ite_pos y2 fa))))
    by_cases g1 : m = 1
    · refine ⟨tb, pb, sb, open_ (Ev.step (fun k => by rw [spec_l1Cur_spoilt.j1]) (Ev.ite_pos rfl (Ev.opt_bind e1 (Ev.opt_bind e2 (Ev.ite_pos u0 (Ev.ite_pos u2 ?_)))))), fb1⟩
      refine Ev.some_bind ?_
      refine Ev.opt_bind e3 ?_
      simp only [hw, wi, Int.toNat_natCast]
      exact Ev.ite_neg g0 (Ev.ite_pos g1 (Ev.ite_pos c1 (Ev.ite_pos c2 (Ev.ite_pos y1 (Ev.ite_pos c3 (Ev.ite_pos c4 (Ev.ite_pos x1 fb)))))))
    · refine ⟨tc, pc, sc, open_ (Ev.step (fun k => by rw [spec_l1Cur_spoilt.j1]) (Ev.ite_pos rfl (Ev.opt_bind e1 (Ev.opt_bind e2 (Ev.ite_pos u0 (Ev.ite_pos u2 ?_)))))), fc1⟩
      refine Ev.some_bind ?_
      refine Ev.opt_bind e3 ?_
      simp only [hw, wi, Int.toNat_natCast]
      exact Ev.ite_neg g0 (Ev.ite_neg g1 (Ev.ite_pos c1 (Ev.ite_pos c2 (Ev.ite_pos c3 (Ev.ite_pos c4 (Ev.ite_pos d1 fc))))))
theorem spoilt_val {c : List Int} (hc : Code c) (t alts : ByteArray) (h2 : 2 ≤ alts.size) (h3 : alts.size ≤ 1000) (p s : Int) (ht : t.size ≤ 900000) (h0 : 0 ≤ p) (h1 : p ≤ 4611686018427370000) :
    ∃ t' p' s', Ev (fun k => spec_l1Cur_spoilt.f k c p s t alts) (t', p', s') ∧ t'.size ≤ t.size + 2 ∧ p ≤ p' ∧ p' ≤ p + 20 := by
  obtain ⟨v, p1, s1, e1, v0, v1, q0, q1⟩ := pick_val hc s 3 h0 (by omega)
  obtain ⟨n, rfl⟩ := Int.eq_ofNat_of_zero_le v0
  obtain ⟨t', p', s', f, f1, f2, f3⟩ := spoilt_go hc alts h2 h3 n (by omega) t p1 s1 (by omega) (by omega) (by omega)
  simp only [spec_l1Cur_spoilt.f]
  exact ⟨t', p', s', Ev.opt_bind e1 f, by omega, by omega, by omega⟩
theorem numberOf_go (l : List Int) (hl : l.length ≤ 140737488355328) (hb : ∀ x ∈ l, 0 ≤ x ∧ x ≤ 255) (d : Nat) : ∀ (i : Nat) (n : Int), l.length - i = d → i ≤ l.length → 0 ≤ n → n < 1000003 → ∃ m : Int, Ev (fun k => laws_numberOf.l0 k n l (l.length : Int) (i : Int)) m ∧ 0 ≤ m ∧ m < 1000003 := by
  induction d with
  | zero =>
    intro i n hd hi h0 h1
    exact ⟨n, Ev.step (fun k => by rw [laws_numberOf.l0]) (Ev.ite_neg (by omega) (Ev.now _)), h0, h1⟩
  | succ d ih =>
    intro i n hd hi h0 h1
    have hr := hb (rd l (i : Int)) (by rw [rd_eq l i (by omega)]; exact List.getElem_mem _)
    have w1 : wrap64 ((wrap64 (31 * n)) + (wrap64 (rd l (i : Int)))) = 31 * n + rd l (i : Int) := by
      rw [w64 (x := 31 * n) (by omega) (by omega), w64 (x := rd l (i : Int)) (by omega) (by omega), w64 (by omega) (by omega)]
    have w2 : wrap64 ((i : Int) + 1) = ((i + 1 : Nat) : Int) := by rw [w64 (by omega) (by omega)]; omega
    have t0 : Int.tmod (31 * n + rd l (i : Int)) 1000003 = (31 * n + rd l (i : Int)) % 1000003 := Int.tmod_eq_emod_of_nonneg (by omega)
    obtain ⟨m, e, g⟩ := ih (i + 1) ((31 * n + rd l (i : Int)) % 1000003) (by omega) (by omega) (by omega) (by omega)
    refine ⟨m, Ev.step (fun k => by rw [laws_numberOf.l0]) (Ev.ite_pos (by omega) (Ev.ite_pos (by omega) (Ev.ite_pos (by omega) ?_))), g⟩
    rw [w1, w2, t0]
    exact e
theorem numberOf_val {l : List Int} (hc : Code l) : ∃ m : Int, Ev (fun k => laws_numberOf.f k l) m ∧ 0 ≤ m ∧ m < 1000003 := by
  simp only [laws_numberOf.f]
  exact numberOf_go l hc.1 hc.2 l.length 0 0 (by omega) (by omega) (by omega) (by omega)
theorem turn_byte {y : Int} (h0 : 0 ≤ y) (h1 : y ≤ 255) {n : Int} (n0 : 0 ≤ n) (n1 : n < 1000003) :
    0 ≤ Go.bits .xor .u8 y ((wrap64 (1 + Int.tmod n 255)) % 256) ∧ Go.bits .xor .u8 y ((wrap64 (1 + Int.tmod n 255)) % 256) < 256 ∧ Go.bits .xor .u8 y ((wrap64 (1 + Int.tmod n 255)) % 256) ≠ y := by
  have t0 : Int.tmod n 255 = n % 255 := Int.tmod_eq_emod_of_nonneg n0
  rw [t0, w64 (by omega) (by omega)]
  obtain ⟨a, rfl⟩ := Int.eq_ofNat_of_zero_le h0
  obtain ⟨b, hb⟩ := Int.eq_ofNat_of_zero_le (show 0 ≤ (1 + n % 255) % 256 by omega)
  rw [hb]
  have hb1 : b < 256 ∧ b ≠ 0 := by omega
  have ha1 : a < 256 := by omega
  rw [bits_xor_nat .u8 8 (by decide) (fun n h0 h1 => by rw [IntKind.wrap_u8]; omega) a b (by omega) (by omega)]
  have hx : a ^^^ b < 256 := Nat.xor_lt_two_pow (n := 8) (by omega) (by omega)
  refine ⟨by omega, by omega, fun h => ?_⟩
  have h2 : a ^^^ b = a := by omega
  have h3 : a ^^^ (a ^^^ b) = b := xor_twice' a b
  rw [h2, Nat.xor_self] at h3
  omega
theorem crcLoop (s : ByteArray) (l1 : List Int) (z1 : s.size ≤ 450)
    (tail : ∀ f : Nat → Option Bool, (∀ k, f k = ((spec_DrawCheckCrc.f k l1).bind fun t209 => ((impl_CheckCrc.f k t209).bind fun bt210 => ((spec_CheckCrc.f k t209).bind fun bt212 => (if (bt210.2 == bt212.2) = true then (some (bt210.1.toList == bt212.1.toList)) else (some false)))))) → Ev f true) :
    ∀ d i : Nat, s.size - i = d → i ≤ s.size → ∀ x : Nat, x < 65536 → crcOver x (s.data.toList.drop i) = crcText s → Ev (fun k => laws_FnCrc.l0 k l1 s (crcText s : Int) (x : Int) (i : Int)) true := by
  intro d
  induction d with
  | zero =>
    intro i hd hi x hx
    obtain rfl : i = s.size := by omega
    have n1 : ¬ (s.size : Int) < (s.size : Int) := by omega
    have e : s.data.toList.drop s.size = [] := List.drop_eq_nil_of_le (by rw [size_data]; omega)
    rw [e]
    intro he
    have he : x = crcText s := he
    refine Ev.step (fun k => by rw [laws_FnCrc.l0]) ?_
    exact Ev.ite_neg n1 (Ev.ite_pos (congrArg Int.ofNat he) (tail _ fun _ => rfl))
  | succ d ih =>
    intro i hd hi x hx
    have hi : i < s.size := by omega
    have hw : wrap64 ((i : Int) + 1) = ((i + 1 : Nat) : Int) := by rw [w64 (by omega) (by omega)]; omega
    have hb : bt s (i : Int) = (s[i].toNat : Int) := by simp [bt, hi]
    have e : s.data.toList.drop i = s[i] :: s.data.toList.drop (i + 1) := List.drop_eq_getElem_cons (by rw [size_data]; exact hi)
    have n := ih (i + 1) (by omega) (by omega) (crcByte x s[i].toNat) (crcByte_lt hx s[i].toNat_lt)
    have p0 : (i : Int) < (s.size : Int) := by omega
    have p1 : (0 : Int) ≤ (i : Int) := by omega
    have p2 : (0 : Int) ≤ (x : Int) ∧ (x : Int) ≤ 65535 := by omega
    have a : Ev (fun k => impl_CrcAdd.f k (x : Int) (s[i].toNat : Int)) ((crcByte x s[i].toNat : Int), true) := by
      simp only [impl_CrcAdd.f, implWithin, Option.bind_some]
      exact Ev.ite_pos (decide_eq_true p2) (Ev.bind (crc_one x s[i].toNat hx s[i].toNat_lt).2 (Ev.now _))
    rw [e, crcOver_cons]
    intro he
    refine Ev.step (fun k => by rw [laws_FnCrc.l0]) ?_
    rw [hw, hb]
    exact Ev.ite_pos p0 (Ev.ite_pos p1 (Ev.bind a (Ev.ite_pos rfl (n he))))
set_option maxHeartbeats 1000000 in
theorem FnCrc : Go.Proofs.Ytaffjcaohbkmoaa.GoalFnCrc.Goal := by
  intro l0 l1 h0 h0' h0'' h1 h1' h1''
  refine Ev.rounds ?_
  have c0 : Code l0 := code_of h0' h0''
  have c1 : Code l1 := code_of h1' h1''
  have tail : ∀ f : Nat → Option Bool, (∀ k, f k = ((spec_DrawCheckCrc.f k l1).bind fun t209 => ((impl_CheckCrc.f k t209).bind fun bt210 => ((spec_CheckCrc.f k t209).bind fun bt212 => (if (bt210.2 == bt212.2) = true then (some (bt210.1.toList == bt212.1.toList)) else (some false)))))) → Ev f true := by
    intro f hf
    have hf' : f = _ := funext hf
    rw [hf']
    obtain ⟨t, p1, s1, e1, z1, q0, q1⟩ := text_val c1 0 0 (by omega) (by omega)
    have dr : ∃ u : ByteArray, Ev (fun k => spec_DrawCheckCrc.f k l1) u ∧ u.size ≤ 1000 := by
      simp only [spec_DrawCheckCrc.f]
      obtain ⟨b, p2, s2, e2, q2, q3⟩ := one_val c1 (p := p1) s1 3 (by omega) (by omega)
      have go : ∀ w : ByteArray × Bool, Ev (fun k => spec_WithCrc.f k t) w → w.1.size ≤ 500 → ∃ u : ByteArray, Ev (fun k => (spec_l1Cur_text.f l1 0 0).bind fun bt170 => ((spec_WithCrc.f k bt170.1).bind fun bt173 => ((spec_l1Cur_one.f l1 bt170.2.1 bt170.2.2 3).bind fun bt175 => (if bt175.1 = true then ((spec_l1Cur_spoilt.f k l1 bt175.2.1 bt175.2.2 bt173.1 (⟨#[0, 1, 97]⟩ : ByteArray)).bind fun bt178 => (some bt178.1)) else (some bt173.1))))) u ∧ u.size ≤ 1000 := by
        intro w hw hz
        cases b with
        | false => exact ⟨_, Ev.opt_bind e1 (Ev.bind hw (Ev.opt_bind e2 (Ev.ite_neg (by simp) (Ev.now _)))), by omega⟩
        | true =>
          obtain ⟨u, p3, s3, e3, z3, _⟩ := spoilt_val c1 w.1 (⟨#[0, 1, 97]⟩ : ByteArray) (by decide) (by decide) p2 s2 (by omega) (by omega) (by omega)
          exact ⟨_, Ev.opt_bind e1 (Ev.bind hw (Ev.opt_bind e2 (Ev.ite_pos rfl (Ev.bind e3 (Ev.now _))))), by simp only; omega⟩
      rcases withCrc_both t (by omega) with ⟨hz, w, _⟩ | ⟨_, w, _⟩
      · exact go _ w (by have : (withSum t).size = t.size + 2 := by rw [withSum, ByteArray.size_append, strOfNums_size]; rfl
                         simp only; omega)
      · exact go _ w (by decide)
    obtain ⟨u, du, hu⟩ := dr
    refine Ev.bind du (Ev.bind (implCheck u (by omega)) (Ev.bind (specCheck u (by omega)) (Ev.ite_pos (by simp) (Ev.now' (by simp)))))
  obtain ⟨s, p1, s1, e1, z1, _⟩ := text_val c0 0 0 (by omega) (by omega)
  obtain ⟨v, cs, ci, cv⟩ := crcOf_told s (by omega)
  simp only [laws_FnCrc.f, spec_DrawWithCrc.f, spec_DrawCrcOf.f, e1, Option.bind_some]
  refine Ev.ite (fun _ => Ev.now _) fun _ => ?_
  rcases withCrc_both s (by omega) with ⟨hs, ws, wi⟩ | ⟨hs, ws, wi⟩
  case inr =>
    refine Ev.bind wi (Ev.bind ws (Ev.bind ci (Ev.bind cs (Ev.ite_neg (by simp) (Ev.ite_pos rfl (Ev.ite_neg (by simp) ?_))))))
    refine Ev.step (fun k => by rw [laws_FnCrc.j0]) ?_
    exact Ev.ite_neg (by simp) (Ev.ite_neg (by simp) (tail _ fun _ => rfl))
  obtain rfl := cv (by omega)
  refine Ev.bind wi (Ev.bind ws (Ev.bind ci (Ev.bind cs (Ev.ite_neg (by simp) (Ev.ite_pos rfl (Ev.ite_neg (by simp) ?_))))))
  refine Ev.step (fun k => by rw [laws_FnCrc.j0]) ?_
  have hz : (withSum s).size = s.size + 2 := by rw [withSum, ByteArray.size_append, strOfNums_size]; rfl
  have ck := implCheck (withSum s) (by omega)
  rw [checked_fwd s hs] at ck
  refine Ev.ite_neg (by simp) (Ev.ite_pos rfl (Ev.bind ck (Ev.ite_pos rfl ?_)))
  have sum := crcLoop s l1 (by omega) tail s.size 0 (by omega) (by omega) 65535 (by omega) rfl
  obtain ⟨m, nm, m0, m1⟩ := numberOf_val c1
  have tt := turned_no s
  generalize withSum s = t at *
  simp only [bne_self_eq_false]
  have hl : (bytesOf t).length = t.size := bytesOf_length t
  have t0 : Int.tmod m ((bytesOf t).length : Int) = m % ((bytesOf t).length : Int) := Int.tmod_eq_emod_of_nonneg m0
  have t1 := Int.emod_nonneg m (show ((bytesOf t).length : Int) ≠ 0 by omega)
  have t2 := Int.emod_lt_of_pos m (show (0 : Int) < ((bytesOf t).length : Int) by omega)
  refine Ev.step (fun k => by rw [laws_FnCrc.j1]) ?_
  refine Ev.ite_neg (by simp) (Ev.ite_pos (by omega) (Ev.some_bind (Ev.bind nm (Ev.ite_neg (by omega) ?_))))
  rw [t0]
  obtain ⟨j, hj⟩ := Int.eq_ofNat_of_zero_le t1
  rw [hj] at t1 t2 ⊢
  rw [Int.toNat_natCast]
  have hy : 0 ≤ rd (bytesOf t) (j : Int) ∧ rd (bytesOf t) (j : Int) ≤ 255 := by
    rw [rd_eq _ j (by omega)]
    simp only [bytesOf, List.getElem_map]
    have := UInt8.toNat_lt (t.data.toList[j]'(by rw [size_data]; omega))
    omega
  obtain ⟨u0, u1, u2⟩ := turn_byte hy.1 hy.2 m0 m1
  have ng := tt j (by omega) _ u0 u1 u2
  refine Ev.ite_pos t1 (Ev.ite_pos t2 ?_)
  refine Ev.bind (implCheck _ (by rw [strOfNums_size, List.length_set]; omega)) (Ev.ite_neg (by rw [ng]; simp) sum)

end Go.Proofs.Ytaffjcaohbkmoaa.Pure
