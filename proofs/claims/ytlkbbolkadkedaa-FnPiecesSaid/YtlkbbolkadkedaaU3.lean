import Derived.Test.YtlkbbolkadkedaaU2
import Derived.Test.YtlkbbolkadkedaaPlain
set_option linter.unusedVariables false
set_option linter.unusedSimpArgs false
namespace Go.Proofs.Ytlkbbolkadkedaa.Pure
open Go.RowKit Go.Proofs.Ytlkbbolkadkedaa.QFnPieces Go.Proofs.YtlkbbolkadkedaaW.PrintWords Go.Proofs.YtlkbbolkadkedaaW.PrintLast Go.Proofs.Ytlkbbolkadkedaa.Plain
def hopsF (l : List PcT) : Nat → Nat → Int → Int
  | 0, _, x => x
  | d + 1, i, x => hopsF l d (i + 1) (mn x (pc l i).f6)
def wputP (xs : List Int) (o : Nat) (s : ByteArray) : List Int := xs.take o ++ bytesOf s ++ xs.drop (o + s.size)
theorem wputP_len (xs : List Int) (o : Nat) (s : ByteArray) (h : o + s.size ≤ xs.length) : (wputP xs o s).length = xs.length := by
  simp only [wputP, List.length_append, List.length_take, List.length_drop, bytesOf_length]
  omega
theorem rd_in (l : List Int) (i : Nat) (h : i < l.length) : rd l (i : Int) = l[i] := by
  simp [rd, List.getD_eq_getElem?_getD, List.getElem?_eq_getElem h]
theorem list_rd_ext {n : Nat} {xs ys : List Int} (h1 : xs.length = n) (h2 : ys.length = n) (h : ∀ a : Nat, a < n → rd xs (a : Int) = rd ys (a : Int)) : xs = ys := by
  apply List.ext_getElem (by rw [h1, h2])
  intro i h3 h4
  have := h i (by omega)
  rwa [rd_in xs i h3, rd_in ys i h4] at this
theorem wputP_in (xs : List Int) (o : Nat) (s : ByteArray) (h : o + s.size ≤ xs.length) (t : Nat) (ht : t < s.size) : rd (wputP xs o s) ((o + t : Nat) : Int) = bt s (t : Int) := by
  have hl : o + t < (wputP xs o s).length := by rw [wputP_len _ _ _ h]; omega
  have hb : t < (bytesOf s).length := by rw [bytesOf_length]; exact ht
  rw [rd_in _ _ hl, ← rd_bytesOf, rd_in _ _ hb]
  simp only [wputP]
  rw [List.getElem_append_left (by simp [bytesOf_length]; omega), List.getElem_append_right (by simp; omega)]
  congr 1
  simp
  omega
theorem wputP_out (xs : List Int) (o : Nat) (s : ByteArray) (h : o + s.size ≤ xs.length) (a : Nat) (ha : a < xs.length) (hn : a < o ∨ o + s.size ≤ a) : rd (wputP xs o s) (a : Int) = rd xs (a : Int) := by
  have hl : a < (wputP xs o s).length := by rw [wputP_len _ _ _ h]; exact ha
  rw [rd_in _ _ hl, rd_in _ _ ha]
  simp only [wputP]
  rcases hn with hn | hn
  · rw [List.getElem_append_left (by simp [bytesOf_length]; omega), List.getElem_append_left (by simp; omega)]
    simp
  · rw [List.getElem_append_right (by simp [bytesOf_length]; omega), List.getElem_drop]
    congr 1
    simp [bytesOf_length]
    omega
def wputs (l : List PcT) : Nat → Nat → List Int → List Int
  | 0, _, out => out
  | d + 1, i, out => wputs l d (i + 1) (wputP out (pc l i).f7.toNat (pc l i).f9)
theorem implWhole_go (l : List PcT) (hl : l.length ≤ 60) (n : Nat) (hp : PileFrom l 0) (h8 : (pc l 0).f8 = n) (a0 a1 : Int) (a2 : Bool) (a3 a4 a5 a7 a8 : Int) (a9 : ByteArray) (d : Nat) : ∀ (i : Nat) (x : Int) (out : List Int), i + d = l.length → out.length = n → Ev (fun k => impl_WholeOf.l0 k out l (l.length : Int) (i : Int) a0 a1 a2 a3 a4 a5 x a7 a8 a9) (a0, a1, a2, a3, a4, a5, hopsF l d i x, 0, 0, strOfNums (wputs l d i out), true) := by
  induction d with
  | zero =>
    intro i x out hd hn
    simp only [hopsF, wputs]
    exact Ev.step (fun k => by rw [impl_WholeOf.l0]) (Ev.ite_neg (by omega) (Ev.now _))
  | succ d ih =>
    intro i x out hd hn
    have hw : wrap64 ((i : Int) + 1) = ((i + 1 : Nat) : Int) := by rw [w64 (by omega) (by omega)]; omega
    obtain ⟨⟨hx, hs, _⟩, _⟩ := hp i (Nat.zero_le _) (by omega)
    have tx := hx.told
    have h8' : (pc l i).f8 = n := by rw [← h8]; exact hs.2.2.2.2.2.2
    have hfit : (pc l i).f7.toNat + (pc l i).f9.size ≤ out.length := by omega
    have hlt : (pc l i).f7 < (out.length : Int) := by omega
    have := ih (i + 1) (mn x (pc l i).f6) (wputP out (pc l i).f7.toNat (pc l i).f9) (by omega) (by rw [wputP_len _ _ _ hfit]; exact hn)
    refine Ev.step (fun k => by rw [impl_WholeOf.l0]) (Ev.ite_pos (by omega) (Ev.ite_pos (by omega) (Ev.ite_pos (by omega) (Ev.ite_pos tx.1 (Ev.ite_pos hlt (Ev.ite_pos hfit ?_))))))
    rw [hw]
    exact this
theorem wputs_parts {b : PcT} (l : List PcT) (hp : ∀ y ∈ l, PartOf b y) (d : Nat) : ∀ (i : Nat) (out : List Int), i + d = l.length → out.length = b.f9.size → (wputs l d i out).length = b.f9.size ∧
    ∀ a : Nat, a < b.f9.size → (rd out (a : Int) = bt b.f9 (a : Int) ∨ ∃ j : Nat, i ≤ j ∧ j < l.length ∧ InP (pc l j) (a : Int)) → rd (wputs l d i out) (a : Int) = bt b.f9 (a : Int) := by
  induction d with
  | zero =>
    intro i out hd ho
    refine ⟨ho, fun a ha h => ?_⟩
    rcases h with h | ⟨j, h1, h2, _⟩
    · exact h
    · omega
  | succ d ih =>
    intro i out hd ho
    obtain ⟨_, _, _, _, _, _, _, h8, h7, hs, he, hx⟩ := hp _ (pc_mem (show i < l.length by omega))
    have hfit : (pc l i).f7.toNat + (pc l i).f9.size ≤ out.length := by omega
    obtain ⟨a1, a2⟩ := ih (i + 1) (wputP out (pc l i).f7.toNat (pc l i).f9) (by omega) (by rw [wputP_len _ _ _ hfit]; exact ho)
    refine ⟨a1, fun a ha h => a2 a ha ?_⟩
    by_cases hin : InP (pc l i) (a : Int)
    · unfold InP at hin
      left
      clear h
      obtain ⟨t, ht⟩ : ∃ t : Nat, (a : Int) = (pc l i).f7 + (t : Int) := ⟨((a : Int) - (pc l i).f7).toNat, by omega⟩
      have ea : (a : Int) = (((pc l i).f7.toNat + t : Nat) : Int) := by omega
      have ht2 : t < (pc l i).f9.size := by omega
      rw [ea, wputP_in _ _ _ hfit t ht2, hx t ht2, ← ht, ← ea]
    · rcases h with h | ⟨j, h1, h2, h3⟩
      · left
        rw [wputP_out _ _ _ hfit a (by omega) (by unfold InP at hin; omega)]
        exact h
      · right
        refine ⟨j, ?_, h2, h3⟩
        rcases Nat.lt_or_ge i j with h4 | h4
        · omega
        · obtain rfl : j = i := by omega
          exact absurd h3 hin
theorem strOf_bytes (e : ByteArray) : strOfNums (bytesOf e) = e := by
  refine ByteArray.ext (Array.ext (by simp [strOfNums, bytesOf]) fun i h1 h2 => ?_)
  simp [strOfNums, bytesOf]
theorem hopsF_same (l : List PcT) (x : Int) (h : ∀ j : Nat, j < l.length → (pc l j).f6 = x) (d : Nat) : ∀ i : Nat, i + d = l.length → hopsF l d i x = x := by
  induction d with
  | zero => exact fun i _ => rfl
  | succ d ih =>
    intro i hi
    rw [hopsF, h i (by omega), show mn x x = x by unfold mn; split <;> rfl]
    exact ih (i + 1) (by omega)
theorem whole_part (b : PcT) (hb : WholeP b) (l : List PcT) (hl : PileOf b l) (hc : ∀ a : Int, 0 ≤ a → a < b.f9.size → ∃ x ∈ l, InP x a) :
    Ev (fun k => impl_MissingIn.f k l) (0, true) ∧ Ev (fun k => impl_WholeOf.f k l) (b.f0, b.f1, b.f2, b.f3, b.f4, b.f5, b.f6, 0, 0, b.f9, true) := by
  obtain ⟨hp, hf, h60⟩ := hl
  obtain ⟨g, f, hg⟩ := implPile l (pile_range hb hp)
  obtain rfl : g = true := hg.2 ⟨hf, h60⟩
  obtain ⟨hgb, hb8, hb7, hbs⟩ := hb
  have hb : WholeP b := ⟨hgb, hb8, hb7, hbs⟩
  have h0 : 0 < l.length := by
    obtain ⟨x, hx, _⟩ := hc 0 (Int.le_refl 0) (by omega)
    exact List.length_pos_of_mem hx
  have h60' : b.f9.size ≤ 60 := by unfold GoodP at hgb; omega
  obtain ⟨xs, e, h1, h2⟩ := implCovered_told l h60 fun j hj => (hp _ (pc_mem hj)).piece hb
  have hin : ∀ a, a ∈ xs ↔ 0 ≤ a ∧ a < b.f9.size := fun a => by
    rw [h2]
    constructor
    · rintro ⟨j, hj, h⟩
      obtain ⟨_, _, _, _, _, _, _, _, h7, _, he, _⟩ := hp _ (pc_mem hj)
      unfold InP at h
      omega
    · rintro ⟨h3, h4⟩
      obtain ⟨x, hx, h⟩ := hc a h3 h4
      obtain ⟨j, hj, rfl⟩ := mem_pc hx
      exact ⟨j, hj, h⟩
  have hxs : xs = (List.range b.f9.size).map Int.ofNat := by
    refine strict_uniq _ _ h1 ?_ fun a => ?_
    · rw [List.pairwise_map]
      exact List.pairwise_lt_range.imp fun h => by simpa using h
    · rw [hin, List.mem_map]
      constructor
      · rintro ⟨h3, h4⟩
        exact ⟨a.toNat, List.mem_range.2 (by omega), by simp; omega⟩
      · rintro ⟨n, hn, rfl⟩
        have := List.mem_range.1 hn
        simp
        omega
  have hlen : xs.length = b.f9.size := by rw [hxs]; simp
  have h08 : (rd_T46 l 0).f8 = (b.f9.size : Int) := (hp _ (pc_mem h0)).2.2.2.2.2.2.2.1
  have miss : Ev (fun k => impl_MissingIn.f k l) (0, true) := by
    simp only [impl_MissingIn.f]
    refine Ev.bind f (Ev.ite_pos rfl (Ev.ite_neg (by omega) (Ev.ite_pos (by omega) (Ev.bind e (Ev.now' ?_)))))
    rw [h08, hlen, Int.sub_self, w64 (by decide) (by decide)]
  refine ⟨miss, ?_⟩
  have run := implWhole_go l h60 b.f9.size hf h08 (rd_T46 l 0).f0 (rd_T46 l 0).f1 (rd_T46 l 0).f2 (rd_T46 l 0).f3 (rd_T46 l 0).f4 (rd_T46 l 0).f5 (rd_T46 l 0).f7 (rd_T46 l 0).f8 (rd_T46 l 0).f9 l.length 0 (rd_T46 l 0).f6 (List.replicate b.f9.size 0) (by omega) (by simp)
  obtain ⟨w1, w2⟩ := wputs_parts l hp l.length 0 (List.replicate b.f9.size 0) (by omega) (by simp)
  have hrow : wputs l l.length 0 (List.replicate b.f9.size 0) = bytesOf b.f9 := by
    refine list_rd_ext w1 (bytesOf_length _) fun a ha => ?_
    rw [rd_bytesOf]
    refine w2 a ha (.inr ?_)
    obtain ⟨x, hx, h⟩ := hc a (by omega) (by omega)
    obtain ⟨j, hj, rfl⟩ := mem_pc hx
    exact ⟨j, Nat.zero_le _, hj, h⟩
  obtain ⟨e0, e1, e2, e3, e4, e5, e6, _⟩ := hp _ (pc_mem h0)
  have hh : hopsF l l.length 0 (rd_T46 l 0).f6 = b.f6 := by
    have e6' : (rd_T46 l 0).f6 = b.f6 := e6
    rw [e6']
    exact hopsF_same l b.f6 (fun j hj => (hp _ (pc_mem hj)).2.2.2.2.2.2.1) l.length 0 (by omega)
  have f0 : (rd_T46 l 0).f0 = b.f0 := e0
  have f1 : (rd_T46 l 0).f1 = b.f1 := e1
  have f2 : (rd_T46 l 0).f2 = b.f2 := e2
  have f3 : (rd_T46 l 0).f3 = b.f3 := e3
  have f4 : (rd_T46 l 0).f4 = b.f4 := e4
  have f5 : (rd_T46 l 0).f5 = b.f5 := e5
  have ho : (b.f0, b.f1, b.f2, b.f3, b.f4, b.f5, b.f6, (0 : Int), (0 : Int), b.f9, true) = ((rd_T46 l 0).f0, (rd_T46 l 0).f1, (rd_T46 l 0).f2, (rd_T46 l 0).f3, (rd_T46 l 0).f4, (rd_T46 l 0).f5, hopsF l l.length 0 (rd_T46 l 0).f6, (0 : Int), (0 : Int), strOfNums (wputs l l.length 0 (List.replicate b.f9.size 0)), true) := by
    rw [hh, hrow, strOf_bytes, f0, f1, f2, f3, f4, f5]
  rw [ho]
  have hz : ((l.length : Int) == 0) = false := beq_eq_false_iff_ne.2 (by omega)
  simp only [impl_WholeOf.f]
  refine Ev.bind miss (Ev.ite_pos rfl (Ev.ite_neg (by decide) ?_))
  rw [hz]
  refine Ev.step (fun k => by rw [impl_WholeOf.j0]) (Ev.ite_neg (by decide) (Ev.ite_pos (by omega) ?_))
  have c2 : 0 ≤ (rd_T46 l 0).f8 := by rw [h08]; omega
  have c3 : (rd_T46 l 0).f8.toNat ≤ 281474976710656 := by rw [h08]; omega
  refine Ev.ite_pos c2 (Ev.ite_pos c3 ?_)
  have en : (rd_T46 l 0).f8.toNat = b.f9.size := by rw [h08]; rfl
  rw [en]
  exact run
theorem samePiles_go (l : List PcT) (hl : l.length ≤ 1048576) (d : Nat) : ∀ i : Nat, i + d = l.length → Ev (fun k => laws_samePiles.l0 k (l.length : Int) (i : Int) l l) true := by
  induction d with
  | zero => exact fun i hi => Ev.step (fun k => by rw [laws_samePiles.l0]) (Ev.ite_neg (by omega) (Ev.now _))
  | succ d ih =>
    intro i hi
    have hw : wrap64 ((i : Int) + 1) = ((i + 1 : Nat) : Int) := by rw [w64 (by omega) (by omega)]; omega
    refine Ev.step (fun k => by rw [laws_samePiles.l0]) (Ev.ite_pos (by omega) (Ev.ite_pos (by omega) (Ev.ite_pos (by omega) (Ev.ite_pos (by omega) (Ev.ite_neg (by simp) ?_)))))
    rw [hw]
    exact ih (i + 1) (by omega)
theorem samePiles_self (l : List PcT) (hl : l.length ≤ 1048576) : Ev (fun k => laws_samePiles.f k l l) true := by
  show Ev (fun k => if (l.length : Int) = (l.length : Int) then laws_samePiles.l0 k (l.length : Int) 0 l l else some false) true
  exact Ev.ite_pos rfl (samePiles_go l hl l.length 0 (by omega))
theorem numberOf_go (l : List Int) (hl : l.length ≤ 1048576) (hb : ∀ x ∈ l, 0 ≤ x ∧ x ≤ 255) (d : Nat) : ∀ (i : Nat) (n : Int), i + d = l.length → 0 ≤ n → n < 1000003 → ∃ r, Ev (fun k => laws_numberOf.l0 k n l (l.length : Int) (i : Int)) r ∧ 0 ≤ r ∧ r < 1000003 := by
  induction d with
  | zero => exact fun i n hi h0 h1 => ⟨n, Ev.step (fun k => by rw [laws_numberOf.l0]) (Ev.ite_neg (by omega) (Ev.now _)), h0, h1⟩
  | succ d ih =>
    intro i n hi h0 h1
    have hlt : i < l.length := by omega
    have hw : wrap64 ((i : Int) + 1) = ((i + 1 : Nat) : Int) := by rw [w64 (by omega) (by omega)]; omega
    have hr : 0 ≤ rd l (i : Int) ∧ rd l (i : Int) ≤ 255 := by
      have e : rd l (i : Int) = l[i] := by simp [rd, rdOf, List.getD_eq_getElem?_getD, hlt]
      rw [e]
      exact hb _ (List.getElem_mem hlt)
    have e1 : wrap64 ((wrap64 (31 * n)) + (wrap64 (rd l (i : Int)))) = 31 * n + rd l (i : Int) := by
      rw [w64 (x := 31 * n) (by omega) (by omega), w64 (x := rd l (i : Int)) (by omega) (by omega), w64 (by omega) (by omega)]
    have e2 : Int.tmod (31 * n + rd l (i : Int)) 1000003 = (31 * n + rd l (i : Int)) % 1000003 := Int.tmod_eq_emod_of_nonneg (by omega)
    obtain ⟨r, a, h2, h3⟩ := ih (i + 1) ((31 * n + rd l (i : Int)) % 1000003) (by omega) (by omega) (by omega)
    refine ⟨r, Ev.step (fun k => by rw [laws_numberOf.l0]) (Ev.ite_pos (by omega) (Ev.ite_pos (by omega) (Ev.ite_pos (by omega) ?_))), h2, h3⟩
    rw [e1, e2, hw]
    exact a
theorem numberOf_told (l : List Int) (hl : l.length ≤ 1048576) (hb : ∀ x ∈ l, 0 ≤ x ∧ x ≤ 255) : ∃ r, Ev (fun k => laws_numberOf.f k l) r ∧ 0 ≤ r ∧ r < 1000003 := by
  simp only [laws_numberOf.f]
  exact numberOf_go l hl hb l.length 0 0 (by omega) (by omega) (by omega)
end Go.Proofs.Ytlkbbolkadkedaa.Pure
