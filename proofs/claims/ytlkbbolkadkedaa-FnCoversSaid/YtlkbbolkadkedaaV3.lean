import Derived.Test.YtlkbbolkadkedaaV2
import Derived.Test.YtlkbbolkadkedaaPlain
set_option linter.unusedVariables false
set_option linter.unusedSimpArgs false
namespace Go.Proofs.Ytlkbbolkadkedaa.Pure
open Go.RowKit Go.Proofs.Ytlkbbolkadkedaa.QFnCovers Go.Proofs.YtlkbbolkadkedaaW.PrintWords Go.Proofs.YtlkbbolkadkedaaW.PrintLast Go.Proofs.Ytlkbbolkadkedaa.Plain
def hopsF (l : List PcT) : Nat → Nat → Int → Int
  | 0, _, x => x
  | d + 1, i, x => hopsF l d (i + 1) (mn x (pc l i).f6)
def MissP (l : List PcT) (n : Int) : Prop := (l.length = 0 → n = 0) ∧ (0 < l.length → ∃ xs : List Int, n = (pc l 0).f8 - (xs.length : Int) ∧ (xs.length : Int) ≤ (pc l 0).f8 ∧ xs.Pairwise (· < ·) ∧ ∀ a, a ∈ xs ↔ ∃ j : Nat, j < l.length ∧ InP (pc l j) a)
theorem missing_both (l : List PcT) (hl : l.length ≤ 1048576) (h8 : ∀ j : Nat, j < l.length → -9223372036854775808 ≤ (pc l j).f8 ∧ (pc l j).f8 ≤ 9223372036854775807) :
    ∃ (n : Int) (b : Bool), Ev (fun k => spec_MissingIn.f k l) (n, b) ∧ Ev (fun k => impl_MissingIn.f k l) (n, b) ∧ (b = true ↔ PileFrom l 0 ∧ l.length ≤ 60) ∧ (b = true → MissP l n) := by
  obtain ⟨b, e, f, hb⟩ := pile_both l hl h8
  simp only [spec_MissingIn.f, impl_MissingIn.f]
  cases b with
  | false =>
    refine ⟨0, false, ?_, Ev.bind f (Ev.ite_neg (by decide) (Ev.now _)), hb, fun h => absurd h (by decide)⟩
    have : Ev (fun k => spec_Covered.f k l) (([] : List Int), false) := by
      simp only [spec_Covered.f]
      exact Ev.bind e (Ev.ite_neg (by decide) (Ev.now _))
    exact Ev.bind this (Ev.ite_neg (by decide) (Ev.now _))
  | true =>
    obtain ⟨hp, h60⟩ := hb.1 rfl
    obtain ⟨xs, x1, x2, x3, x4⟩ := covered_both l h60 hp e f
    by_cases h0 : 0 < l.length
    · have t0 := (hp 0 (Nat.le_refl _) h0).1.1.told
      have hlen := strict_len xs 0 (pc l 0).f8 x3 (fun c hc => by
          obtain ⟨j, hj, h⟩ := (x4 c).1 hc
          obtain ⟨⟨hx, hs, _⟩, _⟩ := hp j (Nat.zero_le _) hj
          have tj := hx.told
          have h8' : (pc l j).f8 = (pc l 0).f8 := hs.2.2.2.2.2.2
          unfold InP at h
          omega) (by omega)
      have hw : wrap64 ((rd_T46 l 0).f8 - (xs.length : Int)) = (pc l 0).f8 - (xs.length : Int) := w64 (x := (pc l 0).f8 - (xs.length : Int)) (by omega) (by omega)
      refine ⟨(pc l 0).f8 - (xs.length : Int), true, Ev.bind x1 (Ev.ite_pos rfl (Ev.ite_neg (by omega) (Ev.ite_pos (by omega) ?_))), Ev.bind f (Ev.ite_pos rfl (Ev.ite_neg (by omega) (Ev.ite_pos (by omega) (Ev.bind x2 ?_)))), hb, fun _ => ⟨fun h => by omega, fun _ => ⟨xs, rfl, by omega, x3, x4⟩⟩⟩
      · simp only [hw]; exact Ev.now _
      · simp only [hw]; exact Ev.now _
    · exact ⟨0, true, Ev.bind x1 (Ev.ite_pos rfl (Ev.ite_pos (by omega) (Ev.now _))), Ev.bind f (Ev.ite_pos rfl (Ev.ite_pos (by omega) (Ev.now _))), hb, fun _ => ⟨fun _ => rfl, fun h => absurd h h0⟩⟩
theorem implWhole_go (l : List PcT) (hl : l.length ≤ 60) (n : Nat) (hp : PileFrom l 0) (h8 : (pc l 0).f8 = n) (a0 a1 : Int) (a2 : Bool) (a3 a4 a5 a7 a8 : Int) (a9 : ByteArray) (d : Nat) : ∀ (i : Nat) (x : Int) (out : List Int), i + d = l.length → out.length = n → Ev (fun k => impl_WholeOf.l0 k out l (l.length : Int) (i : Int) a0 a1 a2 a3 a4 a5 x a7 a8 a9) (a0, a1, a2, a3, a4, a5, hopsF l d i x, 0, 0, strOfNums (wputs l d i out), true) := by
  induction d with
  | zero =>
    intro i x out hd hn
    simp only [hopsF, wputs]
    exact Ev.step (fun k => by rw [impl_WholeOf.l0]) (Ev.ite_neg (by omega) (Ev.now _))
  | succ d ih =>
    intro i x out hd hn
    have hw : wrap64 ((i : Int) + 1) = ((i + 1 : Nat) : Int) := by rw [w64 (by omega) (by omega)]; omega
    obtain ⟨⟨hx, hs, _⟩, _⟩ := hp i (Nat.zero_le _) (by omega)
    have tx := hx.told
    have h8' : (pc l i).f8 = n := by rw [← h8]; exact hs.2.2.2.2.2.2
    have hfit : (pc l i).f7.toNat + (pc l i).f9.size ≤ out.length := by omega
    have hlt : (pc l i).f7 < (out.length : Int) := by omega
    have := ih (i + 1) (mn x (pc l i).f6) (wputP out (pc l i).f7.toNat (pc l i).f9) (by omega) (by rw [wputP_len _ _ _ hfit]; exact hn)
    refine Ev.step (fun k => by rw [impl_WholeOf.l0]) (Ev.ite_pos (by omega) (Ev.ite_pos (by omega) (Ev.ite_pos (by omega) (Ev.ite_pos tx.1 (Ev.ite_pos hlt (Ev.ite_pos hfit ?_))))))
    rw [hw]
    exact this
theorem specWhole_go (l : List PcT) (hl : l.length ≤ 60) (row : List Int) (a0 a1 : Int) (a2 : Bool) (a3 a4 a5 a7 a8 : Int) (a9 : ByteArray) (d : Nat) : ∀ (i : Nat) (x : Int), i + d = l.length → Ev (fun k => spec_WholeOf.l0 k row l (l.length : Int) (i : Int) a0 a1 a2 a3 a4 a5 x a7 a8 a9) (a0, a1, a2, a3, a4, a5, hopsF l d i x, 0, 0, strOfNums row, true) := by
  induction d with
  | zero =>
    intro i x hd
    simp only [hopsF]
    exact Ev.step (fun k => by rw [spec_WholeOf.l0]) (Ev.ite_neg (by omega) (Ev.now _))
  | succ d ih =>
    intro i x hd
    have hw : wrap64 ((i : Int) + 1) = ((i + 1 : Nat) : Int) := by rw [w64 (by omega) (by omega)]; omega
    have := ih (i + 1) (mn x (pc l i).f6) (by omega)
    refine Ev.step (fun k => by rw [spec_WholeOf.l0]) (Ev.ite_pos (by omega) (Ev.ite_pos (by omega) (Ev.ite_pos (by omega) ?_)))
    rw [hw]
    by_cases hm : (pc l i).f6 < x
    · rw [show mn x (pc l i).f6 = (pc l i).f6 from if_pos hm] at this
      refine Ev.ite_pos hm ?_
      rw [hopsF, show mn x (pc l i).f6 = (pc l i).f6 from if_pos hm]
      exact this
    · rw [show mn x (pc l i).f6 = x from if_neg hm] at this
      refine Ev.ite_neg hm ?_
      rw [hopsF, show mn x (pc l i).f6 = x from if_neg hm]
      exact this
theorem str_bt2 {s t : ByteArray} (h : s.size = t.size) (hb : ∀ i : Nat, i < s.size → bt s (i : Int) = bt t (i : Int)) : s = t := by
  refine ByteArray.ext (Array.ext h fun i h1 h2 => ?_)
  have := hb i h1
  unfold bt at this
  have h1' : i < s.size := h1
  have h2' : i < t.size := h2
  simp only [Int.toNat_natCast, dif_pos h1', dif_pos h2'] at this
  have e : s[i].toNat = t[i].toNat := by omega
  exact UInt8.toNat_inj.1 e
theorem bt_part2 (s : ByteArray) (p q t : Nat) (hq : q ≤ s.size) (ht : p + t < q) : bt (s.extract p q) (t : Int) = bt s ((p + t : Nat) : Int) := by
  have h1 : t < (s.extract p q).size := by rw [ByteArray.size_extract]; omega
  have h2 : p + t < s.size := by omega
  unfold bt
  simp only [Int.toNat_natCast, dif_pos h1, dif_pos h2]
  rw [ByteArray.getElem_extract]
theorem bt_255 (s : ByteArray) (i : Int) : 0 ≤ bt s i ∧ bt s i ≤ 255 := by
  unfold bt
  split
  · rename_i h
    have := (s[i.toNat]'h).toNat_lt
    omega
  · omega
theorem bt_strOf (l : List Int) (i : Nat) (h : i < l.length) (h0 : 0 ≤ rd l (i : Int)) (h1 : rd l (i : Int) ≤ 255) : bt (strOfNums l) (i : Int) = rd l (i : Int) := by
  have hz : i < (strOfNums l).size := by rw [strOfNums_size]; exact h
  have e : rd l (i : Int) = l[i] := by simp [rd, rdOf, List.getD_eq_getElem?_getD, h]
  unfold bt
  simp only [Int.toNat_natCast, dif_pos hz]
  rw [e] at h0 h1 ⊢
  have e3 : (strOfNums l).data.toList = l.map fun n => UInt8.ofNat n.toNat := by rw [← ByteArray.toList_eq, strOfNums_toList]
  have e2 : (strOfNums l)[i]'hz = UInt8.ofNat l[i].toNat := by
    have q : (strOfNums l).data.toList[i]'(by rw [e3]; simpa using h) = UInt8.ofNat l[i].toNat := by
      rw [List.getElem_of_eq e3, List.getElem_map]
    rw [← q]
    rfl
  rw [e2, UInt8.toNat_ofNat']
  omega
theorem hopsF_bd (l : List PcT) (hl : ∀ j : Nat, j < l.length → 0 ≤ (pc l j).f6 ∧ (pc l j).f6 ≤ 30) (d : Nat) : ∀ (i : Nat) (x : Int), i + d = l.length → 0 ≤ x ∧ x ≤ 30 → 0 ≤ hopsF l d i x ∧ hopsF l d i x ≤ 30 := by
  induction d with
  | zero => exact fun i x _ h => h
  | succ d ih =>
    intro i x hi h
    rw [hopsF]
    refine ih (i + 1) _ (by omega) ?_
    have := hl i (by omega)
    unfold mn
    split <;> omega
theorem whole_told (l : List PcT) (hl : l.length ≤ 1048576) (h8 : ∀ j : Nat, j < l.length → -9223372036854775808 ≤ (pc l j).f8 ∧ (pc l j).f8 ≤ 9223372036854775807) :
    ∃ (n : Int) (b : Bool) (x : PcT) (is : Bool), Ev (fun k => spec_MissingIn.f k l) (n, b) ∧ Ev (fun k => impl_MissingIn.f k l) (n, b) ∧
      Ev (fun k => spec_WholeOf.f k l) (x.f0, x.f1, x.f2, x.f3, x.f4, x.f5, x.f6, x.f7, x.f8, x.f9, is) ∧ Ev (fun k => impl_WholeOf.f k l) (x.f0, x.f1, x.f2, x.f3, x.f4, x.f5, x.f6, x.f7, x.f8, x.f9, is) ∧
      (is = false → x.f9 = (⟨#[]⟩ : ByteArray)) ∧ (is = true → n = 0 ∧ 0 < l.length ∧ GoodP x.f0 x.f1 x.f3 x.f4 x.f5 x.f6 x.f7 x.f8 x.f9.size ∧ (∀ c ∈ l, 0 ≤ c.f7 ∧ c.f7 + c.f9.size ≤ x.f9.size ∧ x.f9.extract c.f7.toNat (c.f7 + c.f9.size).toNat = c.f9)) := by
  obtain ⟨n, b, e, f, hb, hm⟩ := missing_both l hl h8
  have noS : Ev (fun k => spec_WholeOf.j0 k true l) (0, 0, false, 0, 0, 0, 0, 0, 0, (⟨#[]⟩ : ByteArray), false) := Ev.step (fun k => by rw [spec_WholeOf.j0]) (Ev.ite_pos rfl (Ev.now _))
  have noI : Ev (fun k => impl_WholeOf.j0 k true l) (0, 0, false, 0, 0, 0, 0, 0, 0, (⟨#[]⟩ : ByteArray), false) := Ev.step (fun k => by rw [impl_WholeOf.j0]) (Ev.ite_pos rfl (Ev.now _))
  have no : ∀ {g h : Nat → Option (Int × Int × Bool × Int × Int × Int × Int × Int × Int × ByteArray × Bool)}, Ev g (0, 0, false, 0, 0, 0, 0, 0, 0, (⟨#[]⟩ : ByteArray), false) → Ev h (0, 0, false, 0, 0, 0, 0, 0, 0, (⟨#[]⟩ : ByteArray), false) → ∃ (x : PcT) (is : Bool), Ev g (x.f0, x.f1, x.f2, x.f3, x.f4, x.f5, x.f6, x.f7, x.f8, x.f9, is) ∧ Ev h (x.f0, x.f1, x.f2, x.f3, x.f4, x.f5, x.f6, x.f7, x.f8, x.f9, is) ∧ (is = false → x.f9 = (⟨#[]⟩ : ByteArray)) ∧ (is = true → n = 0 ∧ 0 < l.length ∧ GoodP x.f0 x.f1 x.f3 x.f4 x.f5 x.f6 x.f7 x.f8 x.f9.size ∧ (∀ c ∈ l, 0 ≤ c.f7 ∧ c.f7 + c.f9.size ≤ x.f9.size ∧ x.f9.extract c.f7.toNat (c.f7 + c.f9.size).toNat = c.f9)) :=
    fun a c => ⟨⟨0, 0, false, 0, 0, 0, 0, 0, 0, ⟨#[]⟩⟩, false, a, c, fun _ => rfl, fun h => absurd h (by decide)⟩
  refine ⟨n, b, ?_⟩
  suffices h : ∃ (x : PcT) (is : Bool), Ev (fun k => spec_WholeOf.f k l) (x.f0, x.f1, x.f2, x.f3, x.f4, x.f5, x.f6, x.f7, x.f8, x.f9, is) ∧ Ev (fun k => impl_WholeOf.f k l) (x.f0, x.f1, x.f2, x.f3, x.f4, x.f5, x.f6, x.f7, x.f8, x.f9, is) ∧ (is = false → x.f9 = (⟨#[]⟩ : ByteArray)) ∧ (is = true → n = 0 ∧ 0 < l.length ∧ GoodP x.f0 x.f1 x.f3 x.f4 x.f5 x.f6 x.f7 x.f8 x.f9.size ∧ (∀ c ∈ l, 0 ≤ c.f7 ∧ c.f7 + c.f9.size ≤ x.f9.size ∧ x.f9.extract c.f7.toNat (c.f7 + c.f9.size).toNat = c.f9)) by
    obtain ⟨x, is, h1, h2, h3, h4⟩ := h
    exact ⟨x, is, e, f, h1, h2, h3, h4⟩
  simp only [spec_WholeOf.f, impl_WholeOf.f]
  cases b with
  | false => exact no (Ev.bind e (Ev.ite_neg (by simp) noS)) (Ev.bind f (Ev.ite_neg (by simp) noI))
  | true =>
    by_cases hn : n > 0
    · exact no (Ev.bind e (Ev.ite_pos rfl (Ev.ite_pos hn noS))) (Ev.bind f (Ev.ite_pos rfl (Ev.ite_pos hn noI)))
    by_cases h0 : 0 < l.length
    case neg =>
      have hz : ((l.length : Int) == 0) = true := beq_iff_eq.2 (by omega)
      refine no ?_ ?_
      · refine Ev.bind e (Ev.ite_pos rfl (Ev.ite_neg hn ?_))
        rw [hz]; exact noS
      · refine Ev.bind f (Ev.ite_pos rfl (Ev.ite_neg hn ?_))
        rw [hz]; exact noI
    have hz : ((l.length : Int) == 0) = false := beq_eq_false_iff_ne.2 (by omega)
    obtain ⟨hp, h60⟩ := hb.1 rfl
    obtain ⟨m, out, there, hm8, hL, ho, eb⟩ := bytes_told l h60 hp h0
    have t0 := (hp 0 (Nat.le_refl _) h0).1.1.told
    have hm8' : (rd_T46 l 0).f8 = m := hm8
    have c1 : (0 : Int) < (l.length : Int) := by omega
    have c2 : (0 : Int) ≤ (m : Int) := by omega
    have c3 : m ≤ 281474976710656 := by omega
    obtain ⟨⟨hlen, _⟩, hbytes, _⟩ := hL
    have hsz : (strOfNums out).size = m := by rw [strOfNums_size]; exact hlen
    refine ⟨⟨(rd_T46 l 0).f0, (rd_T46 l 0).f1, (rd_T46 l 0).f2, (rd_T46 l 0).f3, (rd_T46 l 0).f4, (rd_T46 l 0).f5, hopsF l l.length 0 (rd_T46 l 0).f6, 0, 0, strOfNums out⟩, true, ?_, ?_, fun h => absurd h (by decide), fun _ => ⟨?_, h0, ?_, fun c hc => ?_⟩⟩
    · refine Ev.bind e (Ev.ite_pos rfl (Ev.ite_neg hn ?_))
      rw [hz]
      refine Ev.step (fun k => by rw [spec_WholeOf.j0]) (Ev.ite_neg (by decide) (Ev.bind eb (Ev.ite_pos c1 ?_)))
      exact specWhole_go l h60 out _ _ _ _ _ _ _ _ _ l.length 0 _ (by omega)
    · refine Ev.bind f (Ev.ite_pos rfl (Ev.ite_neg hn ?_))
      rw [hz]
      refine Ev.step (fun k => by rw [impl_WholeOf.j0]) (Ev.ite_neg (by decide) (Ev.ite_pos c1 ?_))
      have := implWhole_go l h60 m hp hm8 (rd_T46 l 0).f0 (rd_T46 l 0).f1 (rd_T46 l 0).f2 (rd_T46 l 0).f3 (rd_T46 l 0).f4 (rd_T46 l 0).f5 (rd_T46 l 0).f7 (rd_T46 l 0).f8 (rd_T46 l 0).f9 l.length 0 (rd_T46 l 0).f6 (List.replicate m 0) (by omega) (by simp)
      rw [← ho] at this
      refine Ev.ite_pos (by rw [hm8']; exact c2) (Ev.ite_pos (by rw [hm8', Int.toNat_natCast]; exact c3) ?_)
      rw [hm8', Int.toNat_natCast] at *
      exact this
    · obtain ⟨xs, h1, h2, _, _⟩ := (hm rfl).2 h0
      omega
    · have g0 := (hp 0 (Nat.le_refl _) h0).1.1.1
      have hh := hopsF_bd l (fun j hj => by
        have gj := (hp j (Nat.zero_le _) hj).1.1.1
        unfold GoodP at gj
        omega) l.length 0 (rd_T46 l 0).f6 (by omega) (by unfold GoodP at g0; exact g0.2.2.2.2.2.1)
      unfold GoodP at g0 ⊢
      simp only [hsz]
      exact ⟨g0.1, g0.2.1, g0.2.2.1, g0.2.2.2.1, g0.2.2.2.2.1, hh, by omega, .inl (by simp)⟩
    · obtain ⟨j, hj, ej⟩ := List.getElem_of_mem hc
      have ec : pc l j = c := by rw [pc_get _ _ hj]; exact ej
      obtain ⟨⟨hx, hs, _⟩, _⟩ := hp j (Nat.zero_le _) hj
      have tj := hx.told
      have h8j : (pc l j).f8 = m := by rw [← hm8]; exact hs.2.2.2.2.2.2
      have hB := hbytes j hj
      rw [ec] at tj h8j hB
      obtain ⟨p, hp7⟩ := Int.eq_ofNat_of_zero_le tj.1
      simp only [hsz]
      refine ⟨tj.1, by omega, ?_⟩
      have e1 : c.f7.toNat = p := by omega
      have e2 : (c.f7 + (c.f9.size : Int)).toNat = p + c.f9.size := by omega
      rw [e1, e2]
      have hle : p + c.f9.size ≤ (strOfNums out).size := by rw [hsz]; omega
      refine str_bt2 (by rw [ByteArray.size_extract]; omega) fun t ht => ?_
      rw [ByteArray.size_extract] at ht
      have ht2 : t < c.f9.size := by omega
      have hr := hB t ht2
      rw [hp7, show (p : Int) + (t : Int) = ((p + t : Nat) : Int) by omega] at hr
      have hb255 := bt_255 c.f9 (t : Int)
      rw [bt_part2 _ _ _ _ hle (by omega), bt_strOf out (p + t) (by rw [hlen]; omega) (by rw [hr]; exact hb255.1) (by rw [hr]; exact hb255.2), hr]
theorem samePiles_go (l : List PcT) (hl : l.length ≤ 1048576) (d : Nat) : ∀ i : Nat, i + d = l.length → Ev (fun k => laws_samePiles.l0 k (l.length : Int) (i : Int) l l) true := by
  induction d with
  | zero => exact fun i hi => Ev.step (fun k => by rw [laws_samePiles.l0]) (Ev.ite_neg (by omega) (Ev.now _))
  | succ d ih =>
    intro i hi
    have hw : wrap64 ((i : Int) + 1) = ((i + 1 : Nat) : Int) := by rw [w64 (by omega) (by omega)]; omega
    refine Ev.step (fun k => by rw [laws_samePiles.l0]) (Ev.ite_pos (by omega) (Ev.ite_pos (by omega) (Ev.ite_pos (by omega) (Ev.ite_pos (by omega) (Ev.ite_neg (by simp) ?_)))))
    rw [hw]
    exact ih (i + 1) (by omega)
theorem samePiles_self (l : List PcT) (hl : l.length ≤ 1048576) : Ev (fun k => laws_samePiles.f k l l) true := by
  show Ev (fun k => if (l.length : Int) = (l.length : Int) then laws_samePiles.l0 k (l.length : Int) 0 l l else some false) true
  exact Ev.ite_pos rfl (samePiles_go l hl l.length 0 (by omega))
end Go.Proofs.Ytlkbbolkadkedaa.Pure
