import Derived.Test.YtlkbbolkadkedaaV1
import Derived.Test.YtlkbbolkadkedaaPlain
set_option linter.unusedVariables false
set_option linter.unusedSimpArgs false
namespace Go.Proofs.Ytlkbbolkadkedaa.Pure
open Go.RowKit Go.Proofs.Ytlkbbolkadkedaa.QFnCovers Go.Proofs.YtlkbbolkadkedaaW.PrintWords Go.Proofs.YtlkbbolkadkedaaW.PrintLast Go.Proofs.Ytlkbbolkadkedaa.Plain
theorem addAt (l : List PcT) (b : PcT) : ∀ d i : Nat, i + d = l.length → ∃ m, i ≤ m ∧ m ≤ l.length ∧ (∀ j, i ≤ j → j < m → BeforeP (pc l j) b) ∧ (m < l.length → ¬ BeforeP (pc l m) b) := by
  intro d
  induction d with
  | zero => exact fun i h => ⟨i, Nat.le_refl _, by omega, fun j h1 h2 => by omega, fun h3 => by omega⟩
  | succ d ih =>
    intro i h
    by_cases hb : BeforeP (pc l i) b
    · obtain ⟨m, h1, h2, h3, h4⟩ := ih (i + 1) (by omega)
      refine ⟨m, by omega, h2, fun j h5 h6 => ?_, h4⟩
      by_cases e : j = i
      · subst e; exact hb
      · exact h3 j (by omega) h6
    · exact ⟨i, Nat.le_refl _, by omega, fun j h1 h2 => by omega, fun _ => hb⟩
def addIn (l : List PcT) (m : Nat) (b : PcT) : List PcT := l.take m ++ [b] ++ l.drop m
theorem addIn_len (l : List PcT) (m : Nat) (b : PcT) (h : m ≤ l.length) : (addIn l m b).length = l.length + 1 := by simp [addIn]; omega
theorem addIn_mem {l : List PcT} {m : Nat} {b x : PcT} (h : x ∈ addIn l m b) : x ∈ l ∨ x = b := by
  simp only [addIn, List.mem_append, List.mem_singleton] at h
  rcases h with (h | h) | h
  · exact .inl (List.mem_of_mem_take h)
  · exact .inr h
  · exact .inl (List.mem_of_mem_drop h)
theorem pc_get (l : List PcT) (j : Nat) (h : j < l.length) : pc l j = l[j] := by
  simp [pc, rd_T46, List.getD_eq_getElem?_getD, h]
theorem addIn_at (l : List PcT) (m : Nat) (b : PcT) (h : m ≤ l.length) : pc (addIn l m b) m = b := by
  rw [pc_get _ _ (by rw [addIn_len l m b h]; omega)]
  simp only [addIn]
  rw [List.getElem_append_left (by simp; omega), List.getElem_append_right (by simp; omega)]
  simp
theorem addIn_next (l : List PcT) (m : Nat) (b : PcT) (h : m < l.length) : pc (addIn l m b) (m + 1) = pc l m := by
  rw [pc_get _ _ (by rw [addIn_len l m b (by omega)]; omega), pc_get _ _ h]
  simp only [addIn]
  rw [List.getElem_append_right (by simp; omega), List.getElem_drop]
  congr 1
  simp
  omega
def Twin (x b : PcT) : Prop := SameP x b ∧ x.f7 = b.f7 ∧ x.f9 = b.f9
theorem str_toList (s t : ByteArray) : s.toList = t.toList ↔ s = t :=
  ⟨fun h => ByteArray.ext (Array.toList_inj.mp (by rwa [ByteArray.toList_eq, ByteArray.toList_eq] at h)), fun h => by rw [h]⟩
theorem addIn_mem_iff (l : List PcT) (m : Nat) (x y : PcT) : y ∈ addIn l m x ↔ y ∈ l ∨ y = x := by
  refine ⟨addIn_mem, fun h => ?_⟩
  simp only [addIn, List.mem_append, List.mem_singleton]
  rcases h with h | h
  · rw [← List.take_append_drop m l, List.mem_append] at h
    rcases h with h | h
    · exact .inl (.inl h)
    · exact .inr h
  · exact .inl (.inr h)
theorem pc_mem {l : List PcT} {j : Nat} (h : j < l.length) : pc l j ∈ l := by
  rw [pc_get _ _ h]
  exact List.getElem_mem h
theorem implWithin (a b c : Int) : impl_within.f a b c = some (decide (b ≤ a ∧ a ≤ c)) := by
  unfold impl_within.f
  by_cases h : b ≤ a <;> simp [h]
theorem implGood_no (a0 a1 : Int) (a2 : Bool) (a3 a4 a5 a6 a7 a8 : Int) (a9 : ByteArray) : Ev (fun k => impl_GoodBundle.j0 k true a0 a1 a2 a3 a4 a5 a6 a7 a8 a9) false := by
  refine Ev.step (fun k => by rw [impl_GoodBundle.j0]) ?_
  exact Ev.ite_pos rfl (Ev.now _)
theorem isEmpty_size (s : ByteArray) : s.toList.isEmpty = decide (s.size = 0) := by
  rw [ByteArray.toList_eq, ← size_data]
  cases s.data.toList <;> simp
theorem implGood_end (a0 a1 : Int) (a2 : Bool) (a3 a4 a5 a6 a7 a8 : Int) (a9 : ByteArray) (h8 : -9223372036854775808 ≤ a8 ∧ a8 ≤ 9223372036854775807) (h : a9.size ≤ 60) :
    Ev (fun k => impl_GoodBundle.j0 k (decide ((a9.size : Int) > 60)) a0 a1 a2 a3 a4 a5 a6 a7 a8 a9) (decide ((a8 = 0 ∧ a7 = 0) ∨ (1 ≤ a8 ∧ a8 ≤ 60 ∧ 0 ≤ a7 ∧ a7 + a9.size ≤ a8 ∧ 0 < a9.size))) := by
  rw [decide_eq_false (show ¬ (a9.size : Int) > 60 by omega)]
  refine Ev.step (fun k => by rw [impl_GoodBundle.j0]) ?_
  refine Ev.ite_neg (by simp) ?_
  by_cases hz : a8 = 0
  · refine Ev.ite_pos hz (Ev.now' ?_)
    rw [show (a7 == 0) = decide (a7 = 0) from rfl]
    exact decide_eq_decide.mpr (by omega)
  · refine Ev.ite_neg hz ?_
    rw [implWithin, implWithin, isEmpty_size]
    simp only [Option.bind_some, decide_eq_true_eq]
    by_cases h1 : 1 ≤ a8 ∧ a8 ≤ 60
    · refine Ev.ite_pos h1 ?_
      rw [w64 (by omega) (by omega)]
      by_cases h2 : 0 ≤ a7 ∧ a7 ≤ a8 - (a9.size : Int)
      · refine Ev.ite_pos h2 (Ev.now' ?_)
        by_cases h3 : a9.size = 0
        · rw [decide_eq_true h3, decide_eq_false (show ¬ _ by omega)]; rfl
        · rw [decide_eq_false h3, decide_eq_true (show _ by omega)]; rfl
      · refine Ev.ite_neg h2 (Ev.now' (decide_eq_false (by omega)).symm)
    · refine Ev.ite_neg h1 (Ev.now' (decide_eq_false (by omega)).symm)
theorem implGood (a0 a1 : Int) (a2 : Bool) (a3 a4 a5 a6 a7 a8 : Int) (a9 : ByteArray) (h8 : -9223372036854775808 ≤ a8 ∧ a8 ≤ 9223372036854775807) :
    Ev (fun k => impl_GoodBundle.f k a0 a1 a2 a3 a4 a5 a6 a7 a8 a9) (decide (GoodP a0 a1 a3 a4 a5 a6 a7 a8 a9.size)) := by
  have no : ¬ GoodP a0 a1 a3 a4 a5 a6 a7 a8 a9.size → Ev (fun k => impl_GoodBundle.j0 k true a0 a1 a2 a3 a4 a5 a6 a7 a8 a9) (decide (GoodP a0 a1 a3 a4 a5 a6 a7 a8 a9.size)) := fun h => by
    rw [decide_eq_false h]; exact implGood_no ..
  simp only [impl_GoodBundle.f, implWithin, Option.bind_some, decide_eq_true_eq]
  refine Ev.ite (fun h0 => ?_) fun h => no (by unfold GoodP; omega)
  refine Ev.ite (fun h1 => ?_) fun h => no (by unfold GoodP; omega)
  refine Ev.ite (fun h3 => ?_) fun h => no (by unfold GoodP; omega)
  refine Ev.ite (fun h4 => ?_) fun h => no (by unfold GoodP; omega)
  refine Ev.ite (fun h5 => ?_) fun h => no (by unfold GoodP; omega)
  refine Ev.ite (fun h6 => ?_) fun h => no (by unfold GoodP; omega)
  by_cases hn : a9.size ≤ 60
  · have e : decide (GoodP a0 a1 a3 a4 a5 a6 a7 a8 a9.size) = decide ((a8 = 0 ∧ a7 = 0) ∨ (1 ≤ a8 ∧ a8 ≤ 60 ∧ 0 ≤ a7 ∧ a7 + a9.size ≤ a8 ∧ 0 < a9.size)) :=
      decide_eq_decide.mpr (by unfold GoodP; omega)
    rw [e]
    exact implGood_end a0 a1 a2 a3 a4 a5 a6 a7 a8 a9 h8 hn
  · rw [decide_eq_true (show (a9.size : Int) > 60 by omega)]
    exact no (by unfold GoodP; omega)
theorem same_val (x y : PcT) : spec_l4Same.f x.f0 x.f1 x.f2 x.f3 x.f4 x.f5 x.f6 x.f7 x.f8 x.f9 y.f0 y.f1 y.f2 y.f3 y.f4 y.f5 y.f6 y.f7 y.f8 y.f9 = some (decide (SameP x y)) := by
  unfold spec_l4Same.f SameP
  by_cases h0 : x.f0 = y.f0 <;> by_cases h1 : x.f1 = y.f1 <;> by_cases h2 : x.f2 = y.f2 <;> by_cases h3 : x.f3 = y.f3 <;> by_cases h4 : x.f4 = y.f4 <;> by_cases h5 : x.f5 = y.f5 <;> by_cases h8 : x.f8 = y.f8 <;> simp [h0, h1, h2, h3, h4, h5, h8]
theorem before_val (x y : PcT) : spec_l4Before.f x.f0 x.f1 x.f2 x.f3 x.f4 x.f5 x.f6 x.f7 x.f8 x.f9 y.f0 y.f1 y.f2 y.f3 y.f4 y.f5 y.f6 y.f7 y.f8 y.f9 = some (decide (BeforeP x y)) := by
  unfold spec_l4Before.f
  by_cases h0 : x.f7 < y.f7
  · rw [if_pos h0, decide_eq_true (show BeforeP x y from Or.inl h0)]
  · rw [if_neg h0]
    by_cases h1 : x.f7 = y.f7
    · rw [if_pos h1]
      exact congrArg some (decide_eq_decide.mpr (by unfold BeforeP; omega))
    · rw [if_neg h1, decide_eq_false (show ¬ BeforeP x y by unfold BeforeP; omega)]
theorem agree_go (x y : PcT) (hx : PieceP x) (hy : PieceP y) (d : Nat) : ∀ t : Nat, x.f9.size - t = d → ∃ b : Bool, Ev (fun k => spec_l4Agrees.l0 k (t : Int) x.f0 x.f1 x.f2 x.f3 x.f4 x.f5 x.f6 x.f7 x.f8 x.f9 y.f0 y.f1 y.f2 y.f3 y.f4 y.f5 y.f6 y.f7 y.f8 y.f9) b ∧ (b = true ↔ AgreeFrom x y t) := by
  have tx := hx.told
  have ty := hy.told
  induction d with
  | zero =>
    intro t hd
    refine ⟨true, Ev.step (fun k => by rw [spec_l4Agrees.l0]) (Ev.ite_neg (by omega) (Ev.now _)), ⟨fun _ s h1 h2 => by omega, fun _ => rfl⟩⟩
  | succ d ih =>
    intro t hd
    obtain ⟨b, e, hb⟩ := ih (t + 1) (by omega)
    have hw : wrap64 ((t : Int) + 1) = ((t + 1 : Nat) : Int) := by rw [w64 (by omega) (by omega)]; omega
    have hk : wrap64 (wrap64 (x.f7 + (t : Int)) - y.f7) = x.f7 + t - y.f7 := by rw [w64 (x := x.f7 + (t : Int)) (by omega) (by omega), w64 (by omega) (by omega)]
    have next : Ev (fun k => spec_l4Agrees.j1 k (t : Int) false x.f0 x.f1 x.f2 x.f3 x.f4 x.f5 x.f6 x.f7 x.f8 x.f9 y.f0 y.f1 y.f2 y.f3 y.f4 y.f5 y.f6 y.f7 y.f8 y.f9) b := by
      refine Ev.step (fun k => by rw [spec_l4Agrees.j1]) (Ev.ite_neg (by decide) ?_)
      rw [hw]
      exact e
    by_cases hin : 0 ≤ x.f7 + t - y.f7 ∧ x.f7 + t - y.f7 < (y.f9.size : Int)
    · by_cases hbt : bt x.f9 (t : Int) = bt y.f9 (x.f7 + t - y.f7)
      · refine ⟨b, ?_, hb.trans ⟨fun H s h1 h2 h3 h4 => ?_, fun H s h1 h2 => H s (by omega) h2⟩⟩
        · refine Ev.step (fun k => by rw [spec_l4Agrees.l0]) ?_
          rw [hk]
          refine Ev.ite_pos (by omega) (Ev.ite_pos hin.1 (Ev.ite_pos hin.2 (Ev.ite_pos (by omega) (Ev.ite_pos hin.1 ?_))))
          rw [show (bt x.f9 (t : Int) != bt y.f9 (x.f7 + t - y.f7)) = false by simp [hbt]]
          exact next
        · by_cases es : s = t
          · subst es; exact hbt
          · exact H s (by omega) h2 h3 h4
      · refine ⟨false, ?_, ⟨fun h => absurd h (by decide), fun H => absurd (H t (Nat.le_refl _) (by omega) hin.1 hin.2) hbt⟩⟩
        refine Ev.step (fun k => by rw [spec_l4Agrees.l0]) ?_
        rw [hk]
        refine Ev.ite_pos (by omega) (Ev.ite_pos hin.1 (Ev.ite_pos hin.2 (Ev.ite_pos (by omega) (Ev.ite_pos hin.1 ?_))))
        rw [show (bt x.f9 (t : Int) != bt y.f9 (x.f7 + t - y.f7)) = true by simpa using hbt]
        exact Ev.step (fun k => by rw [spec_l4Agrees.j1]) (Ev.ite_pos rfl (Ev.now _))
    · refine ⟨b, ?_, hb.trans ⟨fun H s h1 h2 h3 h4 => ?_, fun H s h1 h2 => H s (by omega) h2⟩⟩
      · refine Ev.step (fun k => by rw [spec_l4Agrees.l0]) ?_
        rw [hk]
        refine Ev.ite_pos (by omega) (Ev.ite (fun h0 => Ev.ite_neg (fun h1 => hin ⟨h0, h1⟩) next) (fun _ => next))
      · by_cases es : s = t
        · subst es; exact absurd ⟨h3, h4⟩ hin
        · exact H s (by omega) h2 h3 h4
theorem pc_take (l : List PcT) (i j : Nat) (h : j < i) (hi : i ≤ l.length) : rd_T46 (l.take i) (j : Int) = pc l j := by
  simp [pc, rd_T46, List.getD_eq_getElem?_getD, h]
theorem specInner_go (l : List PcT) (hl : l.length ≤ 1048576) (i : Nat) (hi : i < l.length) (hp : ∀ j : Nat, j ≤ i → PieceP (pc l j)) (R : Prop) (b' : Bool) (e' : Ev (fun k => spec_GoodPile.l0 k l (l.length : Int) ((i + 1 : Nat) : Int) l) b') (hb' : b' = true ↔ R) (d : Nat) :
    ∀ j : Nat, i - j = d → j ≤ i → ∃ b : Bool, Ev (fun k => spec_GoodPile.l1 k l (l.length : Int) (i : Int) (l.take i) (i : Int) (j : Int) l (pc l i).f0 (pc l i).f1 (pc l i).f2 (pc l i).f3 (pc l i).f4 (pc l i).f5 (pc l i).f6 (pc l i).f7 (pc l i).f8 (pc l i).f9) b ∧ (b = true ↔ (∀ j' : Nat, j ≤ j' → j' < i → AgreeFrom (pc l i) (pc l j') 0) ∧ R) := by
  induction d with
  | zero =>
    intro j hd hj
    have hw : wrap64 ((i : Int) + 1) = ((i + 1 : Nat) : Int) := by rw [w64 (by omega) (by omega)]; omega
    refine ⟨b', Ev.step (fun k => by rw [spec_GoodPile.l1]) (Ev.ite_neg (by omega) (by rw [hw]; exact e')), hb'.trans ⟨fun h => ⟨fun j' h1 h2 => by omega, h⟩, fun h => h.2⟩⟩
  | succ d ih =>
    intro j hd hj
    have hw : wrap64 ((j : Int) + 1) = ((j + 1 : Nat) : Int) := by rw [w64 (by omega) (by omega)]; omega
    obtain ⟨b, e, hb⟩ := ih (j + 1) (by omega) (by omega)
    obtain ⟨c, ec, hc⟩ := agree_go (pc l i) (pc l j) (hp i (Nat.le_refl _)) (hp j hj) _ 0 rfl
    have hlen : (l.take i).length = i := by simp; omega
    have start : ∀ r, Ev (fun k => if c = true then spec_GoodPile.l1 k l (l.length : Int) (i : Int) (l.take i) (i : Int) (wrap64 ((j : Int) + 1)) l (pc l i).f0 (pc l i).f1 (pc l i).f2 (pc l i).f3 (pc l i).f4 (pc l i).f5 (pc l i).f6 (pc l i).f7 (pc l i).f8 (pc l i).f9 else some false) r →
        Ev (fun k => spec_GoodPile.l1 k l (l.length : Int) (i : Int) (l.take i) (i : Int) (j : Int) l (pc l i).f0 (pc l i).f1 (pc l i).f2 (pc l i).f3 (pc l i).f4 (pc l i).f5 (pc l i).f6 (pc l i).f7 (pc l i).f8 (pc l i).f9) r := by
      intro r h
      refine Ev.step (fun k => by rw [spec_GoodPile.l1]) (Ev.ite_pos (by omega) (Ev.ite_pos (by omega) (Ev.ite_pos (by rw [hlen]; omega) ?_)))
      rw [pc_take l i j (by omega) (by omega)]
      exact Ev.bind ec h
    cases c with
    | true =>
      refine ⟨b, start b (Ev.ite_pos rfl (by rw [hw]; exact e)), hb.trans ⟨fun h => ⟨fun j' h1 h2 => ?_, h.2⟩, fun h => ⟨fun j' h1 h2 => h.1 j' (by omega) h2, h.2⟩⟩⟩
      by_cases ej : j' = j
      · subst ej; exact hc.1 rfl
      · exact h.1 j' (by omega) h2
    | false => exact ⟨false, start false (Ev.ite_neg (by decide) (Ev.now _)), ⟨fun h => absurd h (by decide), fun h => absurd (hc.2 (h.1 j (Nat.le_refl _) (by omega))) (by decide)⟩⟩
theorem specPile_go (l : List PcT) (hl : l.length ≤ 1048576) (d : Nat) : ∀ i : Nat, l.length - i = d → i ≤ l.length → (∀ j : Nat, j < i → PieceP (pc l j)) → ∃ b : Bool, Ev (fun k => spec_GoodPile.l0 k l (l.length : Int) (i : Int) l) b ∧ (b = true ↔ PileFrom l i ∧ l.length ≤ 60) := by
  induction d with
  | zero =>
    intro i hd hi _
    refine ⟨decide ((l.length : Int) ≤ 60), Ev.step (fun k => by rw [spec_GoodPile.l0]) (Ev.ite_neg (by omega) (Ev.now _)), ?_⟩
    rw [decide_eq_true_iff]
    exact ⟨fun h => ⟨fun j h1 h2 => by omega, by omega⟩, fun h => by omega⟩
  | succ d ih =>
    intro i hd hi hp
    have hlt : i < l.length := by omega
    have hg := specGoodH (pc l i).f0 (pc l i).f1 (pc l i).f2 (pc l i).f3 (pc l i).f4 (pc l i).f5 (pc l i).f6 (pc l i).f7 (pc l i).f8 (pc l i).f9
    have bad : Ev (fun k => spec_GoodPile.j1 k (i : Int) l (l.length : Int) (i : Int) true l (pc l i).f0 (pc l i).f1 (pc l i).f2 (pc l i).f3 (pc l i).f4 (pc l i).f5 (pc l i).f6 (pc l i).f7 (pc l i).f8 (pc l i).f9) false := Ev.step (fun k => by rw [spec_GoodPile.j1]) (Ev.ite_pos rfl (Ev.now _))
    have out : ¬ HeadP l i → (false = true ↔ PileFrom l i ∧ l.length ≤ 60) := fun h => ⟨fun x => absurd x (by decide), fun x => absurd ((PileFrom.step hlt).1 x.1).1.1 h⟩
    by_cases h0 : GoodP (pc l i).f0 (pc l i).f1 (pc l i).f3 (pc l i).f4 (pc l i).f5 (pc l i).f6 (pc l i).f7 (pc l i).f8 (pc l i).f9.size
    case neg =>
      rw [decide_eq_false h0] at hg
      refine ⟨false, Ev.step (fun k => by rw [spec_GoodPile.l0]) (Ev.ite_pos (by omega) (Ev.ite_pos (by omega) (Ev.ite_pos (by omega) (Ev.bind hg ?_)))), out fun h => h0 h.1.1⟩
      exact Ev.ite_neg Bool.false_ne_true bad
    rw [decide_eq_true h0] at hg
    by_cases h8 : (pc l i).f8 = 0
    · refine ⟨false, Ev.step (fun k => by rw [spec_GoodPile.l0]) (Ev.ite_pos (by omega) (Ev.ite_pos (by omega) (Ev.ite_pos (by omega) (Ev.bind hg ?_)))), out fun h => h.1.2 h8⟩
      refine Ev.ite_pos rfl ?_
      exact Ev.ite_pos h8 bad
    have hx : PieceP (pc l i) := ⟨h0, h8⟩
    by_cases hs : SameP (pc l i) (pc l 0)
    case neg =>
      refine ⟨false, Ev.step (fun k => by rw [spec_GoodPile.l0]) (Ev.ite_pos (by omega) (Ev.ite_pos (by omega) (Ev.ite_pos (by omega) (Ev.bind hg ?_)))), out fun h => hs h.2.1⟩
      refine Ev.ite_pos rfl ?_
      refine Ev.ite_neg h8 ?_
      refine Ev.ite_pos (by omega) ?_
      refine Ev.opt_bind (same_val (pc l i) (pc l 0)) ?_
      rw [decide_eq_false hs]
      exact Ev.ite_neg (by decide) bad
    have hp' : ∀ j : Nat, j ≤ i → PieceP (pc l j) := fun j hj => by
      by_cases e : j = i
      · subst e; exact hx
      · exact hp j (by omega)
    obtain ⟨b', e', hb'⟩ := ih (i + 1) (by omega) (by omega) (fun j hj => hp' j (by omega))
    obtain ⟨b, e, hb⟩ := specInner_go l hl i hlt hp' _ b' e' hb' i 0 (by omega) (by omega)
    have go : Ev (fun k => spec_GoodPile.j1 k (i : Int) l (l.length : Int) (i : Int) false l (pc l i).f0 (pc l i).f1 (pc l i).f2 (pc l i).f3 (pc l i).f4 (pc l i).f5 (pc l i).f6 (pc l i).f7 (pc l i).f8 (pc l i).f9) b := by
      refine Ev.step (fun k => by rw [spec_GoodPile.j1]) (Ev.ite_neg (by decide) (Ev.ite_pos (by omega) (Ev.ite_pos (by omega) ?_)))
      simp only [Int.toNat_natCast, Option.bind_some]
      rw [show ((l.take i).length : Int) = (i : Int) by simp; omega]
      exact e
    by_cases hi0 : 0 < i
    · have hw : wrap64 ((i : Int) - 1) = ((i - 1 : Nat) : Int) := by rw [w64 (by omega) (by omega)]; omega
      by_cases hbf : BeforeP (pc l (i - 1)) (pc l i)
      · refine ⟨b, Ev.step (fun k => by rw [spec_GoodPile.l0]) (Ev.ite_pos (by omega) (Ev.ite_pos (by omega) (Ev.ite_pos (by omega) (Ev.bind hg ?_)))), hb.trans ?_⟩
        · refine Ev.ite_pos rfl ?_
          refine Ev.ite_neg h8 ?_
          refine Ev.ite_pos (by omega) ?_
          refine Ev.opt_bind (same_val (pc l i) (pc l 0)) ?_
          rw [decide_eq_true hs, hw]
          refine Ev.ite_pos rfl (Ev.ite_pos (by omega) (Ev.ite_pos (by omega) (Ev.ite_pos (by omega) (Ev.opt_bind (before_val (pc l (i - 1)) (pc l i)) ?_))))
          rw [decide_eq_true hbf]
          exact go
        · rw [PileFrom.step hlt]
          exact ⟨fun h => ⟨⟨⟨⟨hx, hs, fun _ => hbf⟩, fun j hj => h.1 j (Nat.zero_le _) hj⟩, h.2.1⟩, h.2.2⟩, fun h => ⟨fun j _ hj => h.1.1.2 j hj, h.1.2, h.2⟩⟩
      · refine ⟨false, Ev.step (fun k => by rw [spec_GoodPile.l0]) (Ev.ite_pos (by omega) (Ev.ite_pos (by omega) (Ev.ite_pos (by omega) (Ev.bind hg ?_)))), out fun h => hbf (h.2.2 hi0)⟩
        refine Ev.ite_pos rfl ?_
        refine Ev.ite_neg h8 ?_
        refine Ev.ite_pos (by omega) ?_
        refine Ev.opt_bind (same_val (pc l i) (pc l 0)) ?_
        rw [decide_eq_true hs, hw]
        refine Ev.ite_pos rfl (Ev.ite_pos (by omega) (Ev.ite_pos (by omega) (Ev.ite_pos (by omega) (Ev.opt_bind (before_val (pc l (i - 1)) (pc l i)) ?_))))
        rw [decide_eq_false hbf]
        exact bad
    · refine ⟨b, Ev.step (fun k => by rw [spec_GoodPile.l0]) (Ev.ite_pos (by omega) (Ev.ite_pos (by omega) (Ev.ite_pos (by omega) (Ev.bind hg ?_)))), hb.trans ?_⟩
      · refine Ev.ite_pos rfl ?_
        refine Ev.ite_neg h8 ?_
        refine Ev.ite_pos (by omega) ?_
        refine Ev.opt_bind (same_val (pc l i) (pc l 0)) ?_
        rw [decide_eq_true hs]
        exact Ev.ite_pos rfl (Ev.ite_neg (by omega) go)
      · rw [PileFrom.step hlt]
        exact ⟨fun h => ⟨⟨⟨⟨hx, hs, fun h0 => absurd h0 hi0⟩, fun j hj => h.1 j (Nat.zero_le _) hj⟩, h.2.1⟩, h.2.2⟩, fun h => ⟨fun j _ hj => h.1.1.2 j hj, h.1.2, h.2⟩⟩
theorem specPile (l : List PcT) (hl : l.length ≤ 1048576) : ∃ b : Bool, Ev (fun k => spec_GoodPile.f k l) b ∧ (b = true ↔ PileFrom l 0 ∧ l.length ≤ 60) := by
  simpa [spec_GoodPile.f] using specPile_go l hl _ 0 rfl (by omega) (fun j hj => by omega)
theorem specAt_go (l : List PcT) (b : PcT) (m : Nat) (hl : l.length ≤ 60) (hm : m ≤ l.length) (hb : ∀ j, j < m → BeforeP (pc l j) b) (hn : m < l.length → ¬ BeforeP (pc l m) b) (r : List PcT × Bool) (h : Ev (fun k => spec_AddPiece.j2 k (m : Int) l b.f0 b.f1 b.f2 b.f3 b.f4 b.f5 b.f6 b.f7 b.f8 b.f9) r) (d : Nat) :
    ∀ i, i + d = m → Ev (fun k => spec_AddPiece.l0 k (i : Int) l b.f0 b.f1 b.f2 b.f3 b.f4 b.f5 b.f6 b.f7 b.f8 b.f9) r := by
  induction d with
  | zero =>
    intro i hi
    obtain rfl : i = m := by omega
    refine Ev.step (fun k => by rw [spec_AddPiece.l0]) ?_
    refine Ev.ite (fun hlt => ?_) (fun _ => h)
    refine Ev.ite_pos (by omega) (Ev.opt_bind (before_val (pc l i) b) ?_)
    rw [decide_eq_false (hn (by omega))]
    exact Ev.ite_neg (by decide) h
  | succ d ih =>
    intro i hi
    have hw : wrap64 ((i : Int) + 1) = ((i + 1 : Nat) : Int) := by rw [w64 (by omega) (by omega)]; omega
    refine Ev.step (fun k => by rw [spec_AddPiece.l0]) ?_
    refine Ev.ite_pos (by omega) (Ev.ite_pos (by omega) (Ev.opt_bind (before_val (pc l i) b) ?_))
    rw [decide_eq_true (hb i (by omega)), hw]
    exact Ev.ite_pos rfl (ih (i + 1) (by omega))
def Rep (l : List PcT) (i : Nat) (kn : Int → Option Int) : Prop :=
  (∀ a c, kn a = some c → ∃ j : Nat, j < i ∧ ∃ t : Nat, t < (pc l j).f9.size ∧ (pc l j).f7 + t = a ∧ bt (pc l j).f9 (t : Int) = c) ∧
    ∀ j : Nat, j < i → ∀ t : Nat, t < (pc l j).f9.size → kn ((pc l j).f7 + t) = some (bt (pc l j).f9 (t : Int))
theorem gpIn_good (x : PcT) (hx : PieceP x) (d : Nat) : ∀ (j : Nat) (kn : Int → Option Int), j + d = x.f9.size → (∀ t : Nat, j ≤ t → t < x.f9.size → (kn (x.f7 + t)).getD (bt x.f9 (t : Int)) = bt x.f9 (t : Int)) →
    ∃ kn', gpIn x d (j : Int) kn = some kn' ∧ (∀ t : Nat, j ≤ t → t < x.f9.size → kn' (x.f7 + t) = some (bt x.f9 (t : Int))) ∧ ∀ a, (¬ ∃ t : Nat, j ≤ t ∧ t < x.f9.size ∧ a = x.f7 + t) → kn' a = kn a := by
  have tx := hx.told
  induction d with
  | zero => exact fun j kn hd _ => ⟨kn, rfl, fun t h1 h2 => by omega, fun a _ => rfl⟩
  | succ d ih =>
    intro j kn hd h
    have hw : wrap64 (x.f7 + (j : Int)) = x.f7 + j := w64 (by omega) (by omega)
    obtain ⟨kn', e, h1, h2⟩ := ih (j + 1) (fun y => if y = x.f7 + j then some (bt x.f9 (j : Int)) else kn y) (by omega) (fun t h3 h4 => by
      rw [if_neg (by omega)]
      exact h t (by omega) h4)
    refine ⟨kn', ?_, fun t h3 h4 => ?_, fun a ha => ?_⟩
    · rw [gpIn, hw, if_pos (h j (Nat.le_refl _) (by omega))]
      exact e
    · by_cases et : t = j
      · subst et
        rw [h2 _ (by rintro ⟨s, h5, h6, h7⟩; omega), if_pos rfl]
      · exact h1 t (by omega) h4
    · rw [h2 a (fun ⟨t, h5, h6, h7⟩ => ha ⟨t, by omega, h6, h7⟩), if_neg (fun e => ha ⟨j, Nat.le_refl _, by omega, e⟩)]
theorem gpIn_bad (x : PcT) (hx : PieceP x) (d : Nat) : ∀ (j : Nat) (kn : Int → Option Int), j + d = x.f9.size → (∃ t : Nat, j ≤ t ∧ t < x.f9.size ∧ (kn (x.f7 + t)).getD (bt x.f9 (t : Int)) ≠ bt x.f9 (t : Int)) → gpIn x d (j : Int) kn = none := by
  have tx := hx.told
  induction d with
  | zero => rintro j kn hd ⟨t, h1, h2, _⟩; omega
  | succ d ih =>
    rintro j kn hd ⟨t, h1, h2, h3⟩
    have hw : wrap64 (x.f7 + (j : Int)) = x.f7 + j := w64 (by omega) (by omega)
    rw [gpIn, hw]
    by_cases hj : (kn (x.f7 + j)).getD (bt x.f9 (j : Int)) = bt x.f9 (j : Int)
    · rw [if_pos hj]
      have hne : t ≠ j := by rintro rfl; exact h3 hj
      refine ih (j + 1) _ (by omega) ⟨t, by omega, h2, ?_⟩
      rw [if_neg (by omega)]
      exact h3
    · rw [if_neg hj]
theorem rep_agree {l : List PcT} {i : Nat} {kn : Int → Option Int} (h : Rep l i kn) (x : PcT) : (∀ t : Nat, t < x.f9.size → (kn (x.f7 + t)).getD (bt x.f9 (t : Int)) = bt x.f9 (t : Int)) ↔ ∀ j : Nat, j < i → AgreeFrom x (pc l j) 0 := by
  constructor
  · intro H j hj t _ ht h0 h1
    obtain ⟨k, hk⟩ := Int.eq_ofNat_of_zero_le h0
    have a := h.2 j hj k (by omega)
    have b := H t ht
    rw [show x.f7 + (t : Int) = (pc l j).f7 + k by omega, a] at b
    rw [hk]
    exact b.symm
  · intro H t ht
    cases hk : kn (x.f7 + t) with
    | none => rfl
    | some c =>
      obtain ⟨j, hj, s, hs, e1, e2⟩ := h.1 _ _ hk
      have := H j hj t (Nat.zero_le _) ht (by omega) (by omega)
      rw [this, show x.f7 + (t : Int) - (pc l j).f7 = s by omega, e2]
      rfl
theorem rep_next {l : List PcT} {i : Nat} {kn kn' : Int → Option Int} (h : Rep l i kn) (ha : ∀ j : Nat, j < i → AgreeFrom (pc l i) (pc l j) 0) (h1 : ∀ t : Nat, 0 ≤ t → t < (pc l i).f9.size → kn' ((pc l i).f7 + t) = some (bt (pc l i).f9 (t : Int)))
    (h2 : ∀ a, (¬ ∃ t : Nat, 0 ≤ t ∧ t < (pc l i).f9.size ∧ a = (pc l i).f7 + t) → kn' a = kn a) : Rep l (i + 1) kn' := by
  refine ⟨fun a c hc => ?_, fun j hj t ht => ?_⟩
  · by_cases hin : ∃ t : Nat, 0 ≤ t ∧ t < (pc l i).f9.size ∧ a = (pc l i).f7 + t
    · obtain ⟨t, _, ht, rfl⟩ := hin
      rw [h1 t (Nat.zero_le _) ht] at hc
      exact ⟨i, by omega, t, ht, rfl, Option.some.inj hc⟩
    · rw [h2 a hin] at hc
      obtain ⟨j, hj, r⟩ := h.1 a c hc
      exact ⟨j, by omega, r⟩
  · by_cases e : j = i
    · subst e; exact h1 t (Nat.zero_le _) ht
    · by_cases hin : ∃ s : Nat, 0 ≤ s ∧ s < (pc l i).f9.size ∧ (pc l j).f7 + t = (pc l i).f7 + s
      · obtain ⟨s, _, hs, e2⟩ := hin
        rw [e2, h1 s (Nat.zero_le _) hs]
        have := ha j (by omega) s (Nat.zero_le _) hs (by omega) (by omega)
        rw [this, show (pc l i).f7 + (s : Int) - (pc l j).f7 = t by omega]
      · rw [h2 _ hin]
        exact h.2 j (by omega) t ht
theorem piece_val (x : PcT) (h : -9223372036854775808 ≤ x.f8 ∧ x.f8 ≤ 9223372036854775807) : ∃ b : Bool, Ev (fun k => impl_isPiece.f k x.f0 x.f1 x.f2 x.f3 x.f4 x.f5 x.f6 x.f7 x.f8 x.f9) b ∧ (b = true ↔ PieceP x) := by
  have hg := implGood x.f0 x.f1 x.f2 x.f3 x.f4 x.f5 x.f6 x.f7 x.f8 x.f9 h
  by_cases h0 : GoodP x.f0 x.f1 x.f3 x.f4 x.f5 x.f6 x.f7 x.f8 x.f9.size
  · rw [decide_eq_true h0] at hg
    refine ⟨decide (x.f8 > 0), ?_, ?_⟩
    · simp only [impl_isPiece.f]
      exact Ev.bind hg (Ev.ite_pos rfl (Ev.now _))
    · rw [decide_eq_true_iff]
      refine ⟨fun h1 => ⟨h0, by omega⟩, fun h1 => ?_⟩
      have := PieceP.told h1
      omega
  · rw [decide_eq_false h0] at hg
    refine ⟨false, ?_, ⟨fun h1 => absurd h1 (by decide), fun h1 => absurd h1.1 h0⟩⟩
    simp only [impl_isPiece.f]
    exact Ev.bind hg (Ev.ite_neg (by decide) (Ev.now _))
theorem order_val (p x : PcT) (hp : PieceP p) (hx : PieceP x) : ∃ n : Int, impl_order.f p.f0 p.f1 p.f2 p.f3 p.f4 p.f5 p.f6 p.f7 p.f8 p.f9 x.f0 x.f1 x.f2 x.f3 x.f4 x.f5 x.f6 x.f7 x.f8 x.f9 = some n ∧ (n ≥ 0 ↔ ¬ BeforeP p x) := by
  have tp := hp.told
  have tx := hx.told
  unfold impl_order.f BeforeP
  by_cases h : p.f7 = x.f7
  · rw [if_pos h]
    refine ⟨_, rfl, ?_⟩
    rw [w64 (by omega) (by omega)]
    omega
  · rw [if_neg h]
    refine ⟨_, rfl, ?_⟩
    rw [w64 (by omega) (by omega)]
    omega
theorem implPile_go (l : List PcT) (hl : l.length ≤ 60) (h8 : ∀ j : Nat, j < l.length → -9223372036854775808 ≤ (pc l j).f8 ∧ (pc l j).f8 ≤ 9223372036854775807) (d : Nat) : ∀ (i : Nat) (kn : Int → Option Int), l.length - i = d → i ≤ l.length → (∀ j : Nat, j < i → PieceP (pc l j)) → Rep l i kn →
    ∃ b : Bool, Ev (fun k => impl_GoodPile.l0 k l (l.length : Int) (i : Int) l kn) b ∧ (b = true ↔ PileFrom l i) := by
  induction d with
  | zero =>
    intro i kn hd hi _ _
    exact ⟨true, Ev.step (fun k => by rw [impl_GoodPile.l0]) (Ev.ite_neg (by omega) (Ev.now _)), ⟨fun _ j h1 h2 => by omega, fun _ => rfl⟩⟩
  | succ d ih =>
    intro i kn hd hi hp hr
    have hlt : i < l.length := by omega
    obtain ⟨c, ec, hc⟩ := piece_val (pc l i) (h8 i hlt)
    have bad : Ev (fun k => impl_GoodPile.j1 k l (l.length : Int) (i : Int) true l kn) false := Ev.step (fun k => by rw [impl_GoodPile.j1]) (Ev.ite_pos rfl (Ev.now _))
    have out : ¬ HeadP l i → (false = true ↔ PileFrom l i) := fun h => ⟨fun x => absurd x (by decide), fun x => absurd ((PileFrom.step hlt).1 x).1.1 h⟩
    cases c with
    | false =>
      refine ⟨false, Ev.step (fun k => by rw [impl_GoodPile.l0]) (Ev.ite_pos (by omega) (Ev.ite_pos (by omega) (Ev.ite_pos (by omega) (Ev.bind ec ?_)))), out fun h => absurd (hc.2 h.1) (by decide)⟩
      exact Ev.ite_neg Bool.false_ne_true bad
    | true =>
      have hx : PieceP (pc l i) := hc.1 rfl
      have tx := hx.told
      have hsame : (!((pc l i).f0 == (pc l 0).f0) || (!((pc l i).f1 == (pc l 0).f1) || (!((pc l i).f2 == (pc l 0).f2) || (!((pc l i).f3 == (pc l 0).f3) || (!((pc l i).f4 == (pc l 0).f4) || (!((pc l i).f5 == (pc l 0).f5) || (!((0 : Int) == 0) || (!((0 : Int) == 0) || (!((pc l i).f8 == (pc l 0).f8) || (!((⟨#[]⟩ : ByteArray).toList == (⟨#[]⟩ : ByteArray).toList))))))))))) = !decide (SameP (pc l i) (pc l 0)) := by
        unfold SameP
        by_cases h0 : (pc l i).f0 = (pc l 0).f0 <;> by_cases h1 : (pc l i).f1 = (pc l 0).f1 <;> by_cases h2 : (pc l i).f2 = (pc l 0).f2 <;> by_cases h3 : (pc l i).f3 = (pc l 0).f3 <;> by_cases h4 : (pc l i).f4 = (pc l 0).f4 <;> by_cases h5 : (pc l i).f5 = (pc l 0).f5 <;> by_cases h6 : (pc l i).f8 = (pc l 0).f8 <;> simp [h0, h1, h2, h3, h4, h5, h6]
      have start : ∀ r, Ev (fun k => if (!decide (SameP (pc l i) (pc l 0))) = true then impl_GoodPile.j1 k l (l.length : Int) (i : Int) true l kn else (if (i : Int) > 0 then (if 0 ≤ (wrap64 ((i : Int) - 1)) then (if (wrap64 ((i : Int) - 1)) < (l.length : Int) then ((impl_order.f (rd_T46 l (wrap64 ((i : Int) - 1))).f0 (rd_T46 l (wrap64 ((i : Int) - 1))).f1 (rd_T46 l (wrap64 ((i : Int) - 1))).f2 (rd_T46 l (wrap64 ((i : Int) - 1))).f3 (rd_T46 l (wrap64 ((i : Int) - 1))).f4 (rd_T46 l (wrap64 ((i : Int) - 1))).f5 (rd_T46 l (wrap64 ((i : Int) - 1))).f6 (rd_T46 l (wrap64 ((i : Int) - 1))).f7 (rd_T46 l (wrap64 ((i : Int) - 1))).f8 (rd_T46 l (wrap64 ((i : Int) - 1))).f9 (pc l i).f0 (pc l i).f1 (pc l i).f2 (pc l i).f3 (pc l i).f4 (pc l i).f5 (pc l i).f6 (pc l i).f7 (pc l i).f8 (pc l i).f9).bind fun n => impl_GoodPile.j1 k l (l.length : Int) (i : Int) (decide (n ≥ 0)) l kn) else none) else none) else impl_GoodPile.j1 k l (l.length : Int) (i : Int) false l kn)) r →
          Ev (fun k => impl_GoodPile.l0 k l (l.length : Int) (i : Int) l kn) r := by
        intro r h
        refine Ev.step (fun k => by rw [impl_GoodPile.l0]) (Ev.ite_pos (by omega) (Ev.ite_pos (by omega) (Ev.ite_pos (by omega) (Ev.bind ec (Ev.ite_pos rfl ?_)))))
        simp only [impl_of.f, Option.bind_some]
        refine Ev.ite_pos (by omega) ?_
        rw [← hsame] at h
        exact h
      by_cases hs : SameP (pc l i) (pc l 0)
      case neg => exact ⟨false, start _ (Ev.ite_pos (by rw [decide_eq_false hs]; rfl) bad), out fun h => hs h.2.1⟩
      have hp' : ∀ j : Nat, j ≤ i → PieceP (pc l j) := fun j hj => by
        by_cases e : j = i
        · subst e; exact hx
        · exact hp j (by omega)
      have go : ∃ b : Bool, Ev (fun k => impl_GoodPile.j1 k l (l.length : Int) (i : Int) false l kn) b ∧ (b = true ↔ (∀ j : Nat, j < i → AgreeFrom (pc l i) (pc l j) 0) ∧ PileFrom l (i + 1)) := by
        have hw : wrap64 ((i : Int) + 1) = ((i + 1 : Nat) : Int) := by rw [w64 (by omega) (by omega)]; omega
        by_cases ha : ∀ t : Nat, t < (pc l i).f9.size → (kn ((pc l i).f7 + t)).getD (bt (pc l i).f9 (t : Int)) = bt (pc l i).f9 (t : Int)
        · obtain ⟨kn', e, k1, k2⟩ := gpIn_good (pc l i) hx (pc l i).f9.size 0 kn (by omega) (fun t _ ht => ha t ht)
          have ha' := (rep_agree hr (pc l i)).1 ha
          obtain ⟨b, eb, hb⟩ := ih (i + 1) kn' (by omega) (by omega) (fun j hj => hp' j (by omega)) (rep_next hr ha' k1 k2)
          refine ⟨b, Ev.step (fun k => by rw [impl_GoodPile.j1]) (Ev.ite_neg (by decide) (Ev.ite_pos tx.2.2.1 ?_)), hb.trans ⟨fun h => ⟨ha', h⟩, fun h => h.2⟩⟩
          have e' : gpIn (rd_T46 l (i : Int)) (rd_T46 l (i : Int)).f9.size 0 kn = some kn' := e
          rw [e', hw]
          exact Ev.ite_pos rfl eb
        · have hb : ∃ t : Nat, 0 ≤ t ∧ t < (pc l i).f9.size ∧ (kn ((pc l i).f7 + t)).getD (bt (pc l i).f9 (t : Int)) ≠ bt (pc l i).f9 (t : Int) := by
            exact Classical.byContradiction fun hn => ha fun t ht => Classical.byContradiction fun h => hn ⟨t, Nat.zero_le _, ht, h⟩
          have e := gpIn_bad (pc l i) hx (pc l i).f9.size 0 kn (by omega) hb
          refine ⟨false, Ev.step (fun k => by rw [impl_GoodPile.j1]) (Ev.ite_neg (by decide) (Ev.ite_pos tx.2.2.1 ?_)), ⟨fun h => absurd h (by decide), fun h => absurd ((rep_agree hr (pc l i)).2 h.1) ha⟩⟩
          have e' : gpIn (rd_T46 l (i : Int)) (rd_T46 l (i : Int)).f9.size 0 kn = none := e
          rw [e']
          exact Ev.ite_neg (by decide) (Ev.now _)
      obtain ⟨b, eb, hb⟩ := go
      by_cases hi0 : 0 < i
      · have hw : wrap64 ((i : Int) - 1) = ((i - 1 : Nat) : Int) := by rw [w64 (by omega) (by omega)]; omega
        obtain ⟨n, en, hn⟩ := order_val (pc l (i - 1)) (pc l i) (hp' (i - 1) (by omega)) hx
        by_cases hbf : BeforeP (pc l (i - 1)) (pc l i)
        · refine ⟨b, start b (Ev.ite_neg (by rw [decide_eq_true hs]; decide) ?_), hb.trans ?_⟩
          · rw [hw]
            refine Ev.ite_pos (by omega) (Ev.ite_pos (by omega) (Ev.ite_pos (by omega) (Ev.opt_bind en ?_)))
            rw [decide_eq_false (fun h => hn.1 h hbf)]
            exact eb
          · rw [PileFrom.step hlt]
            exact ⟨fun h => ⟨⟨⟨hx, hs, fun _ => hbf⟩, h.1⟩, h.2⟩, fun h => ⟨h.1.2, h.2⟩⟩
        · refine ⟨false, start _ (Ev.ite_neg (by rw [decide_eq_true hs]; decide) ?_), out fun h => hbf (h.2.2 hi0)⟩
          rw [hw]
          refine Ev.ite_pos (by omega) (Ev.ite_pos (by omega) (Ev.ite_pos (by omega) (Ev.opt_bind en ?_)))
          rw [decide_eq_true (hn.2 hbf)]
          exact bad
      · refine ⟨b, start b (Ev.ite_neg (by rw [decide_eq_true hs]; decide) (Ev.ite_neg (by omega) eb)), hb.trans ?_⟩
        rw [PileFrom.step hlt]
        exact ⟨fun h => ⟨⟨⟨hx, hs, fun h0 => absurd h0 hi0⟩, h.1⟩, h.2⟩, fun h => ⟨h.1.2, h.2⟩⟩
theorem implPile (l : List PcT) (h8 : ∀ j : Nat, j < l.length → -9223372036854775808 ≤ (pc l j).f8 ∧ (pc l j).f8 ≤ 9223372036854775807) : ∃ b : Bool, Ev (fun k => impl_GoodPile.f k l) b ∧ (b = true ↔ PileFrom l 0 ∧ l.length ≤ 60) := by
  simp only [impl_GoodPile.f]
  by_cases h : (l.length : Int) > 60
  · exact ⟨false, Ev.ite_pos h (Ev.now _), ⟨fun x => absurd x (by decide), fun x => by omega⟩⟩
  · obtain ⟨b, e, hb⟩ := implPile_go l (by omega) h8 _ 0 (fun _ => none) rfl (by omega) (fun j hj => by omega) ⟨fun a c h => by simp at h, fun j hj => by omega⟩
    exact ⟨b, Ev.ite_neg h e, hb.trans ⟨fun h' => ⟨h', by omega⟩, fun h' => h'.1⟩⟩
theorem implAt_go (l : List PcT) (b : PcT) (hp : ∀ j, j < l.length → PieceP (pc l j)) (hx : PieceP b) (m : Nat) (hl : l.length ≤ 60) (hm : m ≤ l.length) (hb : ∀ j, j < m → BeforeP (pc l j) b) (hn : m < l.length → ¬ BeforeP (pc l m) b) (r : List PcT × Bool) (h : Ev (fun k => impl_AddPiece.j4 k false (m : Int) b.f0 b.f1 b.f2 b.f3 b.f4 b.f5 b.f6 b.f7 b.f8 b.f9 l) r) (d : Nat) :
    ∀ i, i + d = m → Ev (fun k => impl_AddPiece.l1 k false (i : Int) b.f0 b.f1 b.f2 b.f3 b.f4 b.f5 b.f6 b.f7 b.f8 b.f9 l) r := by
  induction d with
  | zero =>
    intro i hi
    obtain rfl : i = m := by omega
    refine Ev.step (fun k => by rw [impl_AddPiece.l1]) ?_
    refine Ev.ite (fun hlt => ?_) (fun _ => h)
    obtain ⟨n, en, hn'⟩ := order_val (pc l i) b (hp i (by omega)) hx
    have := hn'.2 (hn (by omega))
    refine Ev.ite_pos (by omega) (Ev.opt_bind en (Ev.ite_neg (by omega) h))
  | succ d ih =>
    intro i hi
    have hw : wrap64 ((i : Int) + 1) = ((i + 1 : Nat) : Int) := by rw [w64 (by omega) (by omega)]; omega
    obtain ⟨n, en, hn'⟩ := order_val (pc l i) b (hp i (by omega)) hx
    have hlt : n < 0 := Classical.byContradiction fun hge => hn'.1 (by omega) (hb i (by omega))
    refine Ev.step (fun k => by rw [impl_AddPiece.l1]) ?_
    refine Ev.ite_pos (by omega) (Ev.ite_pos (by omega) (Ev.opt_bind en (Ev.ite_pos hlt ?_)))
    rw [hw]
    exact ih (i + 1) (by omega)
theorem implFind_go (l : List PcT) (b : PcT) (hl : l.length ≤ 60) (d : Nat) : ∀ i, i + d = l.length →
    ((∃ j, i ≤ j ∧ j < l.length ∧ Twin (pc l j) b) → Ev (fun k => impl_AddPiece.l0 k false l (l.length : Int) (i : Int) b.f0 b.f1 b.f2 b.f3 b.f4 b.f5 b.f6 b.f7 b.f8 b.f9 l) (l, true)) ∧
    ((¬ ∃ j, i ≤ j ∧ j < l.length ∧ Twin (pc l j) b) → ∀ r, Ev (fun k => impl_AddPiece.l1 k false 0 b.f0 b.f1 b.f2 b.f3 b.f4 b.f5 b.f6 b.f7 b.f8 b.f9 l) r → Ev (fun k => impl_AddPiece.l0 k false l (l.length : Int) (i : Int) b.f0 b.f1 b.f2 b.f3 b.f4 b.f5 b.f6 b.f7 b.f8 b.f9 l) r) := by
  induction d with
  | zero =>
    intro i hi
    refine ⟨fun ⟨j, h1, h2, _⟩ => by omega, fun _ r h => Ev.step (fun k => by rw [impl_AddPiece.l0]) (Ev.ite_neg (by omega) h)⟩
  | succ d ih =>
    intro i hi
    have hw : wrap64 ((i : Int) + 1) = ((i + 1 : Nat) : Int) := by rw [w64 (by omega) (by omega)]; omega
    obtain ⟨ih1, ih2⟩ := ih (i + 1) (by omega)
    have hsame : ((pc l i).f0 == b.f0 && ((pc l i).f1 == b.f1 && ((pc l i).f2 == b.f2 && ((pc l i).f3 == b.f3 && ((pc l i).f4 == b.f4 && ((pc l i).f5 == b.f5 && ((0 : Int) == 0 && ((0 : Int) == 0 && ((pc l i).f8 == b.f8 && ((⟨#[]⟩ : ByteArray).toList == (⟨#[]⟩ : ByteArray).toList)))))))))) = decide (SameP (pc l i) b) := by
      unfold SameP
      by_cases h0 : (pc l i).f0 = b.f0 <;> by_cases h1 : (pc l i).f1 = b.f1 <;> by_cases h2 : (pc l i).f2 = b.f2 <;> by_cases h3 : (pc l i).f3 = b.f3 <;> by_cases h4 : (pc l i).f4 = b.f4 <;> by_cases h5 : (pc l i).f5 = b.f5 <;> by_cases h6 : (pc l i).f8 = b.f8 <;> simp [h0, h1, h2, h3, h4, h5, h6]
    have start : ∀ r, Ev (fun k => if decide (SameP (pc l i) b) = true then (if (pc l i).f7 = b.f7 then impl_AddPiece.j2 k false l (l.length : Int) (i : Int) ((pc l i).f9.toList == b.f9.toList) b.f0 b.f1 b.f2 b.f3 b.f4 b.f5 b.f6 b.f7 b.f8 b.f9 l else impl_AddPiece.j2 k false l (l.length : Int) (i : Int) false b.f0 b.f1 b.f2 b.f3 b.f4 b.f5 b.f6 b.f7 b.f8 b.f9 l) else impl_AddPiece.j2 k false l (l.length : Int) (i : Int) false b.f0 b.f1 b.f2 b.f3 b.f4 b.f5 b.f6 b.f7 b.f8 b.f9 l) r → Ev (fun k => impl_AddPiece.l0 k false l (l.length : Int) (i : Int) b.f0 b.f1 b.f2 b.f3 b.f4 b.f5 b.f6 b.f7 b.f8 b.f9 l) r := by
      intro r h
      refine Ev.step (fun k => by rw [impl_AddPiece.l0]) (Ev.ite_pos (by omega) (Ev.ite_pos (by omega) (Ev.ite_pos (by omega) ?_)))
      simp only [impl_of.f, Option.bind_some]
      rw [← hsame] at h
      exact h
    have go : ∀ r, Ev (fun k => impl_AddPiece.l0 k false l (l.length : Int) ((i + 1 : Nat) : Int) b.f0 b.f1 b.f2 b.f3 b.f4 b.f5 b.f6 b.f7 b.f8 b.f9 l) r → Ev (fun k => impl_AddPiece.j2 k false l (l.length : Int) (i : Int) false b.f0 b.f1 b.f2 b.f3 b.f4 b.f5 b.f6 b.f7 b.f8 b.f9 l) r := fun r h =>
      Ev.step (fun k => by rw [impl_AddPiece.j2]) (Ev.ite_neg (by decide) (by rw [hw]; exact h))
    have other : ¬ Twin (pc l i) b → ∀ r, Ev (fun k => impl_AddPiece.l0 k false l (l.length : Int) ((i + 1 : Nat) : Int) b.f0 b.f1 b.f2 b.f3 b.f4 b.f5 b.f6 b.f7 b.f8 b.f9 l) r → Ev (fun k => impl_AddPiece.l0 k false l (l.length : Int) (i : Int) b.f0 b.f1 b.f2 b.f3 b.f4 b.f5 b.f6 b.f7 b.f8 b.f9 l) r := by
      intro ht r h
      refine start r ?_
      by_cases hs : SameP (pc l i) b
      · rw [decide_eq_true hs]
        refine Ev.ite_pos rfl (Ev.ite (fun h7 => ?_) (fun _ => go r h))
        have h9 : ((pc l i).f9.toList == b.f9.toList) = false := beq_eq_false_iff_ne.2 fun e => ht ⟨hs, h7, (str_toList _ _).1 e⟩
        rw [h9]
        exact go r h
      · rw [decide_eq_false hs]
        exact Ev.ite_neg (by decide) (go r h)
    constructor
    · rintro ⟨j, h1, h2, ht⟩
      by_cases hi' : Twin (pc l i) b
      · refine start _ ?_
        rw [decide_eq_true hi'.1]
        refine Ev.ite_pos rfl (Ev.ite_pos hi'.2.1 ?_)
        rw [beq_iff_eq.2 ((str_toList _ _).2 hi'.2.2)]
        exact Ev.step (fun k => by rw [impl_AddPiece.j2]) (Ev.ite_pos rfl (Ev.now _))
      · refine other hi' _ (ih1 ⟨j, ?_, h2, ht⟩)
        rcases Nat.lt_or_ge i j with h | h
        · exact h
        · obtain rfl : j = i := by omega
          exact absurd ht hi'
    · intro hno r h
      exact other (fun ht => hno ⟨i, Nat.le_refl _, by omega, ht⟩) r (ih2 (fun ⟨j, h1, h2, ht⟩ => hno ⟨j, by omega, h2, ht⟩) r h)
theorem pile_both (l : List PcT) (hl : l.length ≤ 1048576) (h8 : ∀ j : Nat, j < l.length → -9223372036854775808 ≤ (pc l j).f8 ∧ (pc l j).f8 ≤ 9223372036854775807) :
    ∃ b : Bool, Ev (fun k => spec_GoodPile.f k l) b ∧ Ev (fun k => impl_GoodPile.f k l) b ∧ (b = true ↔ PileFrom l 0 ∧ l.length ≤ 60) := by
  obtain ⟨b, e, h⟩ := specPile l hl
  obtain ⟨c, f, g⟩ := implPile l h8
  have : b = c := by
    cases b <;> cases c <;> first | rfl | exact absurd (h.2 (g.1 rfl)) (by decide) | exact absurd (g.2 (h.1 rfl)) (by decide)
  subst this
  exact ⟨b, e, f, h⟩
theorem compactUp (d : Array Int) (hd : ∀ i j, i < j → j < d.size → d[i]! ≤ d[j]!) : ∀ m, m ≤ d.size → (Go.Lib.compactUpTo d m).Pairwise (· < ·) ∧ (∀ a, a ∈ Go.Lib.compactUpTo d m ↔ ∃ j, j < m ∧ d[j]! = a) := by
  intro m
  induction m with
  | zero => exact fun _ => ⟨by simp [Go.Lib.compactUpTo], fun a => by simp [Go.Lib.compactUpTo]⟩
  | succ m ih =>
    intro hm
    obtain ⟨h1, h2⟩ := ih (by omega)
    rw [Go.Lib.compactUpTo_succ]
    by_cases hk : Go.Lib.keeps d m = true
    · rw [if_pos hk]
      refine ⟨List.pairwise_append.2 ⟨h1, List.pairwise_singleton _ _, fun a ha b hb => ?_⟩, fun a => ?_⟩
      · obtain rfl : b = d[m]! := by simpa using hb
        obtain ⟨j, hj, rfl⟩ := (h2 a).1 ha
        have hne : d[m - 1]! ≠ d[m]! := by
          simp [Go.Lib.keeps] at hk
          rcases hk with hk | hk
          · omega
          · first | exact fun e => hk e.symm | exact hk
        have l1 := hd (m - 1) m (by omega) (by omega)
        have l2 : d[j]! ≤ d[m - 1]! := by
          by_cases e : j = m - 1
          · rw [e]; exact Int.le_refl _
          · exact hd j (m - 1) (by omega) (by omega)
        omega
      · rw [List.mem_append, h2]
        constructor
        · rintro (⟨j, hj, e⟩ | h)
          · exact ⟨j, by omega, e⟩
          · exact ⟨m, by omega, (List.mem_singleton.1 h).symm⟩
        · rintro ⟨j, hj, e⟩
          by_cases ej : j = m
          · subst ej; exact .inr (by simp [e])
          · exact .inl ⟨j, by omega, e⟩
    · rw [if_neg hk, List.append_nil]
      refine ⟨h1, fun a => (h2 a).trans ⟨fun ⟨j, hj, e⟩ => ⟨j, by omega, e⟩, fun ⟨j, hj, e⟩ => ?_⟩⟩
      by_cases ej : j = m
      · subst ej
        have hk' : j ≠ 0 ∧ d[j]! = d[j - 1]! := by
          simp [Go.Lib.keeps] at hk
          omega
        exact ⟨j - 1, by omega, by rw [← hk'.2]; exact e⟩
      · exact ⟨j, by omega, e⟩
theorem compact_sorted (xs : List Int) : (Go.Lib.compact (xs.mergeSort fun x y => decide (x ≤ y))).Pairwise (· < ·) ∧ ∀ a, a ∈ Go.Lib.compact (xs.mergeSort fun x y => decide (x ≤ y)) ↔ a ∈ xs := by
  have hs := List.pairwise_mergeSort (le := fun x y : Int => decide (x ≤ y)) (fun a b c h1 h2 => by simp at *; omega) (fun a b => by simp; omega) xs
  generalize hz : (xs.mergeSort fun x y => decide (x ≤ y)) = zs at hs ⊢
  have hp : ∀ a, a ∈ zs ↔ a ∈ xs := fun a => by rw [← hz]; exact List.mem_mergeSort
  have hd : ∀ i j, i < j → j < zs.toArray.size → zs.toArray[i]! ≤ zs.toArray[j]! := fun i j hij hj => by
    have hj' : j < zs.length := by simpa using hj
    have := List.pairwise_iff_getElem.1 hs i j (by omega) hj' hij
    simpa [getElem!_pos, show i < zs.length by omega, hj'] using this
  obtain ⟨h1, h2⟩ := compactUp zs.toArray hd zs.length (by simp)
  refine ⟨h1, fun a => (h2 a).trans ⟨fun ⟨j, hj, e⟩ => (hp a).1 ?_, fun h => ?_⟩⟩
  · rw [← e]; simp [hj]
  · obtain ⟨j, hj, e⟩ := List.getElem_of_mem ((hp a).2 h)
    exact ⟨j, hj, by simpa [hj] using e⟩
theorem strict_uniq : ∀ (xs ys : List Int), xs.Pairwise (· < ·) → ys.Pairwise (· < ·) → (∀ a, a ∈ xs ↔ a ∈ ys) → xs = ys
  | [], [], _, _, _ => rfl
  | [], y :: ys, _, _, h => absurd ((h y).2 (by simp)) (by simp)
  | x :: xs, [], _, _, h => absurd ((h x).1 (by simp)) (by simp)
  | x :: xs, y :: ys, h1, h2, h => by
    rw [List.pairwise_cons] at h1 h2
    have e : x = y := by
      have a := (h x).1 (by simp)
      have b := (h y).2 (by simp)
      rcases List.mem_cons.1 a with a | a
      · exact a
      · rcases List.mem_cons.1 b with b | b
        · exact b.symm
        · have := h2.1 x a; have := h1.1 y b; omega
    subst e
    refine congrArg _ (strict_uniq xs ys h1.2 h2.2 fun a => ?_)
    constructor
    · intro ha
      rcases List.mem_cons.1 ((h a).1 (by simp [ha])) with e | e
      · have := h1.1 a ha; omega
      · exact e
    · intro ha
      rcases List.mem_cons.1 ((h a).2 (by simp [ha])) with e | e
      · have := h2.1 a ha; omega
      · exact e
def InP (x : PcT) (a : Int) : Prop := x.f7 ≤ a ∧ a < x.f7 + x.f9.size
theorem covIn_go (l : List PcT) (i : Nat) (hx : PieceP (pc l i)) (res : List Int → List Int) (hres : ∀ acc : List Int, acc.length ≤ 60 * (i + 1) → Ev (fun k => impl_Pile_covered.l0 k acc l (l.length : Int) (wrap64 ((i : Int) + 1))) (res acc)) (hi : i < 60) (d : Nat) :
    ∀ (t : Nat) (acc : List Int), t + d = (pc l i).f9.size → acc.length ≤ 60 * i + t → Ev (fun k => impl_Pile_covered.l1 k acc ((pc l i).f7 + t) l (l.length : Int) (i : Int) (pc l i).f0 (pc l i).f1 (pc l i).f2 (pc l i).f3 (pc l i).f4 (pc l i).f5 (pc l i).f6 (pc l i).f7 (pc l i).f8 (pc l i).f9) (res (acc ++ (List.range d).map fun s => (pc l i).f7 + ((t + s : Nat) : Int))) := by
  have tx := hx.told
  have hw : wrap64 ((pc l i).f7 + ((pc l i).f9.size : Int)) = (pc l i).f7 + ((pc l i).f9.size : Int) := w64 (by omega) (by omega)
  induction d with
  | zero =>
    intro t acc hd hl
    refine Ev.step (fun k => by rw [impl_Pile_covered.l1]) ?_
    simp only [impl_Bundle_end.f, Option.bind_some, hw]
    refine Ev.ite_neg (by omega) ?_
    simpa using hres acc (by omega)
  | succ d ih =>
    intro t acc hd hl
    have hw1 : wrap64 ((pc l i).f7 + (t : Int) + 1) = (pc l i).f7 + ((t + 1 : Nat) : Int) := by rw [w64 (by omega) (by omega)]; omega
    have := ih (t + 1) (acc ++ [(pc l i).f7 + (t : Int)]) (by omega) (by simp; omega)
    refine Ev.step (fun k => by rw [impl_Pile_covered.l1]) ?_
    simp only [impl_Bundle_end.f, Option.bind_some, hw]
    refine Ev.ite_pos (by omega) (Ev.ite_pos (by omega) ?_)
    rw [hw1]
    have e : (acc ++ [(pc l i).f7 + (t : Int)]) ++ (List.range d).map (fun s => (pc l i).f7 + ((t + 1 + s : Nat) : Int)) = acc ++ (List.range (d + 1)).map fun s => (pc l i).f7 + ((t + s : Nat) : Int) := by
      rw [List.range_succ_eq_map, List.map_cons, List.map_map, List.append_assoc]
      congr 1
      simp only [List.singleton_append, Nat.add_zero]
      congr 1
      refine List.map_congr_left fun s _ => ?_
      simp only [Function.comp]
      omega
    rw [← e]
    exact this
theorem cov_go (l : List PcT) (hl : l.length ≤ 60) (hp : ∀ j : Nat, j < l.length → PieceP (pc l j)) (d : Nat) : ∀ i : Nat, l.length - i = d → i ≤ l.length → ∃ res : List Int → List Int, (∀ acc : List Int, acc.length ≤ 60 * i → Ev (fun k => impl_Pile_covered.l0 k acc l (l.length : Int) (i : Int)) (res acc)) ∧
    (∀ acc a, a ∈ res acc ↔ a ∈ acc ∨ ∃ j : Nat, i ≤ j ∧ j < l.length ∧ InP (pc l j) a) ∧ ∀ acc, (res acc).length ≤ acc.length + 60 * (l.length - i) := by
  induction d with
  | zero =>
    intro i hd hi
    exact ⟨fun acc => acc, fun acc _ => Ev.step (fun k => by rw [impl_Pile_covered.l0]) (Ev.ite_neg (by omega) (Ev.now _)), fun acc a => ⟨.inl, fun h => h.elim id fun ⟨j, h1, h2, _⟩ => by omega⟩, fun acc => Nat.le_add_right _ _⟩
  | succ d ih =>
    intro i hd hi
    have hlt : i < l.length := by omega
    have hx := hp i hlt
    have tx := hx.told
    have hw : wrap64 ((i : Int) + 1) = ((i + 1 : Nat) : Int) := by rw [w64 (by omega) (by omega)]; omega
    obtain ⟨res, h1, h2, h3⟩ := ih (i + 1) (by omega) (by omega)
    refine ⟨fun acc => res (acc ++ (List.range (pc l i).f9.size).map fun s => (pc l i).f7 + ((0 + s : Nat) : Int)), fun acc ha => ?_, fun acc a => ?_, fun acc => ?_⟩
    · refine Ev.step (fun k => by rw [impl_Pile_covered.l0]) (Ev.ite_pos (by omega) (Ev.ite_pos (by omega) (Ev.ite_pos (by omega) ?_)))
      have := covIn_go l i hx res (fun acc' h' => by rw [hw]; exact h1 acc' h') (by omega) (pc l i).f9.size 0 acc (by omega) (by omega)
      simpa using this
    · rw [h2, List.mem_append, List.mem_map]
      constructor
      · rintro ((h | ⟨s, hs, rfl⟩) | ⟨j, h4, h5, h6⟩)
        · exact .inl h
        · have := List.mem_range.1 hs
          exact .inr ⟨i, Nat.le_refl _, hlt, by unfold InP; omega⟩
        · exact .inr ⟨j, by omega, h5, h6⟩
      · rintro (h | ⟨j, h4, h5, h6⟩)
        · exact .inl (.inl h)
        · by_cases e : j = i
          · subst e
            unfold InP at h6
            exact .inl (.inr ⟨(a - (pc l j).f7).toNat, List.mem_range.2 (by omega), by omega⟩)
          · exact .inr ⟨j, by omega, h5, h6⟩
    · refine Nat.le_trans (h3 _) ?_
      simp
      omega
theorem compact_le (zs : List Int) : (Go.Lib.compact zs).length ≤ zs.length := by
  unfold Go.Lib.compact Go.Lib.compactUpTo
  rw [List.length_map]
  exact Nat.le_trans (List.length_filter_le _ _) (by simp)
theorem implCovered_told (l : List PcT) (hl : l.length ≤ 60) (hp : ∀ j : Nat, j < l.length → PieceP (pc l j)) : ∃ xs : List Int, Ev (fun k => impl_Pile_covered.f k l) xs ∧ xs.Pairwise (· < ·) ∧ ∀ a, a ∈ xs ↔ ∃ j : Nat, j < l.length ∧ InP (pc l j) a := by
  obtain ⟨res, h1, h2, h3⟩ := cov_go l hl hp _ 0 rfl (by omega)
  obtain ⟨c1, c2⟩ := compact_sorted (res [])
  refine ⟨_, ?_, c1, fun a => (c2 a).trans ((h2 [] a).trans (by simp))⟩
  simp only [impl_Pile_covered.f]
  refine Ev.bind (h1 [] (by simp)) (Ev.ite_pos (by have := h3 []; simp at this; omega) (Ev.ite_pos (compact_le _) (Ev.now _)))
def AddedP (l v : List PcT) (b : PcT) (c : Bool) : Prop := (c = true ↔ PileFrom v 0 ∧ v ≠ []) ∧ (c = true → PileFrom l 0 ∧ l.length ≤ 60 ∧ PieceP b ∧ ∀ a, (∃ x ∈ v, InP x a) ↔ (∃ x ∈ l, InP x a) ∨ InP b a)
theorem addIn_cov (l : List PcT) (m : Nat) (b : PcT) (a : Int) : (∃ x ∈ addIn l m b, InP x a) ↔ (∃ x ∈ l, InP x a) ∨ InP b a := by
  constructor
  · rintro ⟨x, hx, h⟩
    rcases (addIn_mem_iff l m b x).1 hx with h1 | h1
    · exact .inl ⟨x, h1, h⟩
    · subst h1; exact .inr h
  · rintro (⟨x, hx, h⟩ | h)
    · exact ⟨x, (addIn_mem_iff l m b x).2 (.inl hx), h⟩
    · exact ⟨b, (addIn_mem_iff l m b b).2 (.inr rfl), h⟩
theorem add_told (l : List PcT) (b : PcT) (hl : l.length ≤ 1048576) (h8 : ∀ j : Nat, j < l.length → -9223372036854775808 ≤ (pc l j).f8 ∧ (pc l j).f8 ≤ 9223372036854775807) (hb8 : -9223372036854775808 ≤ b.f8 ∧ b.f8 ≤ 9223372036854775807) :
    ∃ (v : List PcT) (c : Bool), v.length ≤ 60 ∧ Ev (fun k => spec_AddPiece.f k l b.f0 b.f1 b.f2 b.f3 b.f4 b.f5 b.f6 b.f7 b.f8 b.f9) (v, c) ∧ Ev (fun k => impl_AddPiece.f k l b.f0 b.f1 b.f2 b.f3 b.f4 b.f5 b.f6 b.f7 b.f8 b.f9) (v, c) ∧ AddedP l v b c := by
  obtain ⟨g, e, f, hg⟩ := pile_both l hl h8
  have noS : Ev (fun k => spec_AddPiece.j0 k true l b.f0 b.f1 b.f2 b.f3 b.f4 b.f5 b.f6 b.f7 b.f8 b.f9) (([] : List PcT), false) := Ev.step (fun k => by rw [spec_AddPiece.j0]) (Ev.ite_pos rfl (Ev.now _))
  have noI : Ev (fun k => impl_AddPiece.j0 k false true l b.f0 b.f1 b.f2 b.f3 b.f4 b.f5 b.f6 b.f7 b.f8 b.f9) (([] : List PcT), false) := Ev.step (fun k => by rw [impl_AddPiece.j0]) (Ev.ite_pos rfl (Ev.now _))
  have nil0 : ((false = true) ↔ PileFrom ([] : List PcT) 0 ∧ ([] : List PcT) ≠ []) := ⟨fun h => absurd h (by decide), fun h => absurd rfl h.2⟩
  have nil : AddedP l [] b false := ⟨nil0, fun h => absurd h (by decide)⟩
  simp only [spec_AddPiece.f, impl_AddPiece.f]
  cases g with
  | false => exact ⟨[], false, by simp, Ev.bind e (Ev.ite_neg (by decide) noS), Ev.bind f (Ev.ite_neg (by decide) noI), nil⟩
  | true =>
    obtain ⟨hp, h60⟩ := hg.1 rfl
    have hgS := specGoodH b.f0 b.f1 b.f2 b.f3 b.f4 b.f5 b.f6 b.f7 b.f8 b.f9
    obtain ⟨c, ec, hc⟩ := piece_val b hb8
    by_cases h0 : GoodP b.f0 b.f1 b.f3 b.f4 b.f5 b.f6 b.f7 b.f8 b.f9.size
    case neg =>
      rw [decide_eq_false h0] at hgS
      have : c = false := by cases c with
        | false => rfl
        | true => exact absurd (hc.1 rfl).1 h0
      subst this
      exact ⟨[], false, by simp, Ev.bind e (Ev.ite_pos rfl (Ev.bind hgS (Ev.ite_neg (by decide) noS))), Ev.bind f (Ev.ite_pos rfl (Ev.bind ec noI)), nil⟩
    rw [decide_eq_true h0] at hgS
    by_cases hz : b.f8 = 0
    · have : c = false := by cases c with
        | false => rfl
        | true => exact absurd hz (hc.1 rfl).2
      subst this
      refine ⟨[], false, by simp, Ev.bind e (Ev.ite_pos rfl (Ev.bind hgS (Ev.ite_pos rfl ?_))), Ev.bind f (Ev.ite_pos rfl (Ev.bind ec noI)), nil⟩
      rw [beq_iff_eq.2 hz]
      exact noS
    have hx : PieceP b := ⟨h0, hz⟩
    obtain rfl : c = true := hc.2 hx
    have tb := hx.told
    have hps : ∀ j, j < l.length → PieceP (pc l j) := fun j hj => (hp j (Nat.zero_le _) hj).1.1
    obtain ⟨m, _, hm, hb, hn⟩ := addAt l b l.length 0 (by omega)
    replace hb : ∀ j, j < m → BeforeP (pc l j) b := fun j hj => hb j (Nat.zero_le _) hj
    -- the roads of the two
    have toS : ∀ r, Ev (fun k => spec_AddPiece.j2 k (m : Int) l b.f0 b.f1 b.f2 b.f3 b.f4 b.f5 b.f6 b.f7 b.f8 b.f9) r → Ev (fun k => (spec_GoodPile.f k l).bind fun t188 => (if t188 = true then ((spec_GoodBundle.f k b.f0 b.f1 b.f2 b.f3 b.f4 b.f5 b.f6 b.f7 b.f8 b.f9).bind fun t189 => (if t189 = true then (spec_AddPiece.j0 k (b.f8 == 0) l b.f0 b.f1 b.f2 b.f3 b.f4 b.f5 b.f6 b.f7 b.f8 b.f9) else (spec_AddPiece.j0 k true l b.f0 b.f1 b.f2 b.f3 b.f4 b.f5 b.f6 b.f7 b.f8 b.f9))) else (spec_AddPiece.j0 k true l b.f0 b.f1 b.f2 b.f3 b.f4 b.f5 b.f6 b.f7 b.f8 b.f9))) r := by
      intro r h
      refine Ev.bind e (Ev.ite_pos rfl (Ev.bind hgS (Ev.ite_pos rfl ?_)))
      rw [beq_eq_false_iff_ne.2 hz]
      refine Ev.step (fun k => by rw [spec_AddPiece.j0]) (Ev.ite_neg (by decide) ?_)
      exact specAt_go l b m h60 hm hb hn r h m 0 (by omega)
    have toI : ∀ r, Ev (fun k => impl_AddPiece.l0 k false l (l.length : Int) 0 b.f0 b.f1 b.f2 b.f3 b.f4 b.f5 b.f6 b.f7 b.f8 b.f9 l) r → Ev (fun k => (impl_GoodPile.f k l).bind fun t241 => (if t241 = true then ((impl_isPiece.f k b.f0 b.f1 b.f2 b.f3 b.f4 b.f5 b.f6 b.f7 b.f8 b.f9).bind fun t242 => (impl_AddPiece.j0 k false (!t242) l b.f0 b.f1 b.f2 b.f3 b.f4 b.f5 b.f6 b.f7 b.f8 b.f9)) else (impl_AddPiece.j0 k false true l b.f0 b.f1 b.f2 b.f3 b.f4 b.f5 b.f6 b.f7 b.f8 b.f9))) r := by
      intro r h
      refine Ev.bind f (Ev.ite_pos rfl (Ev.bind ec ?_))
      have hcl : impl_Bundle_56.f l = some l := if_pos (by omega)
      refine Ev.step (fun k => by rw [Bool.not_true, impl_AddPiece.j0]) ?_
      refine Ev.ite_neg (by decide) ?_
      exact Ev.opt_bind hcl h
    -- what stands when the piece is put in
    have hil := addIn_len l m b hm
    have h8i : ∀ j : Nat, j < (addIn l m b).length → -9223372036854775808 ≤ (pc (addIn l m b) j).f8 ∧ (pc (addIn l m b) j).f8 ≤ 9223372036854775807 := by
      intro j hj
      rw [pc_get _ _ hj]
      rcases addIn_mem (List.getElem_mem hj) with h | h
      · obtain ⟨i, hi, e⟩ := List.getElem_of_mem h
        rw [← e, ← pc_get _ _ hi]
        exact h8 i hi
      · rw [h]; exact hb8
    obtain ⟨g2, e2, f2, hg2⟩ := pile_both (addIn l m b) (by omega) h8i
    have d4 : Ev (fun k => impl_AddPiece.j4 k false (m : Int) b.f0 b.f1 b.f2 b.f3 b.f4 b.f5 b.f6 b.f7 b.f8 b.f9 l) (if g2 = true then addIn l m b else [], g2) := by
      refine Ev.step (fun k => by rw [impl_AddPiece.j4]) ?_
      refine Ev.ite_neg (by omega) ?_
      refine Ev.ite_pos (And.intro (by omega) (by omega)) ?_
      simp only [Option.bind_some, Int.toNat_natCast]
      refine Ev.bind f2 ?_
      cases g2 with
      | true => exact Ev.ite_pos rfl (Ev.now _)
      | false => exact Ev.ite_neg (by decide) (Ev.now _)
    have s4 : Ev (fun k => spec_AddPiece.j4 k (m : Int) l (l.take m ++ [b])) (if g2 = true then addIn l m b else [], g2) := by
      refine Ev.step (fun k => by rw [spec_AddPiece.j4]) (Ev.ite_pos (by omega) (Ev.ite_pos (by omega) ?_))
      simp only [Option.bind_some, Int.toNat_natCast]
      refine Ev.ite_pos (by simp; omega) (Ev.bind e2 ?_)
      cases g2 with
      | true => exact Ev.ite_pos rfl (Ev.now _)
      | false => exact Ev.ite_neg (by decide) (Ev.now _)
    have s3 : Ev (fun k => spec_AddPiece.j3 k (m : Int) true l b.f0 b.f1 b.f2 b.f3 b.f4 b.f5 b.f6 b.f7 b.f8 b.f9 (l.take m)) (if g2 = true then addIn l m b else [], g2) := by
      refine Ev.step (fun k => by rw [spec_AddPiece.j3]) (Ev.ite_pos rfl (Ev.ite_pos (by simp; omega) ?_))
      exact s4
    have s2 : ∀ (t : Bool) (r : List PcT × Bool), (m = l.length → t = true) → (m < l.length → t = decide (BeforeP b (pc l m))) → Ev (fun k => spec_AddPiece.j3 k (m : Int) t l b.f0 b.f1 b.f2 b.f3 b.f4 b.f5 b.f6 b.f7 b.f8 b.f9 (l.take m)) r → Ev (fun k => spec_AddPiece.j2 k (m : Int) l b.f0 b.f1 b.f2 b.f3 b.f4 b.f5 b.f6 b.f7 b.f8 b.f9) r := by
      intro t r ht1 ht2 h
      refine Ev.step (fun k => by rw [spec_AddPiece.j2]) ?_
      simp only [Option.bind_some, Int.toNat_natCast, List.nil_append]
      refine Ev.ite_pos (by omega) (Ev.ite_pos (by omega) (Ev.ite_pos (by simp; omega) (Ev.ite (fun he => ?_) (fun he => Ev.ite_pos (by omega) (Ev.opt_bind (before_val b (pc l m)) ?_)))))
      · rw [ht1 (by omega)] at h; exact h
      · rw [← ht2 (by omega)]; exact h
    have fin : (g2 = true → addIn l m b ≠ []) := fun _ h => by rw [h] at hil; simp at hil
    have put : (¬ ∃ j, j < l.length ∧ Twin (pc l j) b) → (m < l.length → BeforeP b (pc l m)) → ∃ (v : List PcT) (c : Bool), v.length ≤ 60 ∧ Ev (fun k => (spec_GoodPile.f k l).bind fun t188 => (if t188 = true then ((spec_GoodBundle.f k b.f0 b.f1 b.f2 b.f3 b.f4 b.f5 b.f6 b.f7 b.f8 b.f9).bind fun t189 => (if t189 = true then (spec_AddPiece.j0 k (b.f8 == 0) l b.f0 b.f1 b.f2 b.f3 b.f4 b.f5 b.f6 b.f7 b.f8 b.f9) else (spec_AddPiece.j0 k true l b.f0 b.f1 b.f2 b.f3 b.f4 b.f5 b.f6 b.f7 b.f8 b.f9))) else (spec_AddPiece.j0 k true l b.f0 b.f1 b.f2 b.f3 b.f4 b.f5 b.f6 b.f7 b.f8 b.f9))) (v, c) ∧ Ev (fun k => (impl_GoodPile.f k l).bind fun t241 => (if t241 = true then ((impl_isPiece.f k b.f0 b.f1 b.f2 b.f3 b.f4 b.f5 b.f6 b.f7 b.f8 b.f9).bind fun t242 => (impl_AddPiece.j0 k false (!t242) l b.f0 b.f1 b.f2 b.f3 b.f4 b.f5 b.f6 b.f7 b.f8 b.f9)) else (impl_AddPiece.j0 k false true l b.f0 b.f1 b.f2 b.f3 b.f4 b.f5 b.f6 b.f7 b.f8 b.f9))) (v, c) ∧ AddedP l v b c := by
      intro hno hbm
      refine ⟨if g2 = true then addIn l m b else [], g2, ?_, toS _ (s2 true _ (fun _ => rfl) (fun h => (decide_eq_true (hbm h)).symm) s3), toI _ ((implFind_go l b h60 l.length 0 (by omega)).2 (fun ⟨j, _, h2, h3⟩ => hno ⟨j, h2, h3⟩) _ (implAt_go l b hps hx m h60 hm hb hn _ d4 m 0 (by omega))), ?_⟩
      · cases g2 with
        | true => exact (hg2.1 rfl).2
        | false => simp
      · cases g2 with
        | true => exact ⟨⟨fun _ => ⟨(hg2.1 rfl).1, fin rfl⟩, fun _ => rfl⟩, fun _ => ⟨hp, h60, hx, fun a => addIn_cov l m b a⟩⟩
        | false => exact nil
    by_cases hm' : m < l.length
    case neg =>
      refine put (fun ⟨j, hj, ht⟩ => ?_) (fun h => absurd h hm')
      have := hb j (by omega)
      unfold BeforeP at this
      rw [ht.2.1, ht.2.2] at this
      omega
    have hnm := hn hm'
    by_cases hbm : BeforeP b (pc l m)
    · refine put (fun ⟨j, hj, ht⟩ => ?_) (fun _ => hbm)
      rcases Nat.lt_trichotomy j m with h | h | h
      · have := hb j h
        unfold BeforeP at this
        rw [ht.2.1, ht.2.2] at this
        omega
      · subst h
        unfold BeforeP at hbm
        rw [ht.2.1, ht.2.2] at hbm
        omega
      · have step : ∀ d, m + 1 + d < l.length → BeforeP (pc l m) (pc l (m + 1 + d)) := by
          intro d
          induction d with
          | zero => exact fun h => (hp (m + 1) (Nat.zero_le _) h).1.2.2 (by omega)
          | succ d ih =>
            intro h
            have a1 := ih (by omega)
            have a2 := (hp (m + 1 + (d + 1)) (Nat.zero_le _) h).1.2.2 (by omega)
            rw [show m + 1 + (d + 1) - 1 = m + 1 + d by omega] at a2
            unfold BeforeP at a1 a2 ⊢
            omega
        have := step (j - (m + 1)) (by omega)
        rw [show m + 1 + (j - (m + 1)) = j by omega] at this
        unfold BeforeP at this hbm
        rw [ht.2.1, ht.2.2] at this
        omega
    have h7 : (pc l m).f7 = b.f7 ∧ (pc l m).f9.size = b.f9.size := by
      unfold BeforeP at hnm hbm
      omega
    by_cases ht : Twin (pc l m) b
    · refine ⟨l, true, h60, toS _ (s2 false _ (fun h => by omega) (fun _ => (decide_eq_false hbm).symm) ?_), toI _ ((implFind_go l b h60 l.length 0 (by omega)).1 ⟨m, Nat.zero_le _, hm', ht⟩), ⟨⟨fun _ => ⟨hp, fun h => by rw [h] at hm'; simp at hm'⟩, fun _ => rfl⟩, fun _ => ⟨hp, h60, hx, fun a => ⟨.inl, fun h => h.elim id fun h => ⟨pc l m, pc_mem hm', by unfold InP at h ⊢; rw [ht.2.1, ht.2.2]; exact h⟩⟩⟩⟩⟩
      refine Ev.step (fun k => by rw [spec_AddPiece.j3]) (Ev.ite_neg (by decide) (Ev.ite_pos (by omega) (Ev.ite_pos (by omega) (Ev.opt_bind (same_val b (pc l m)) ?_))))
      have hs : SameP b (pc l m) := by
        obtain ⟨h, _⟩ := ht
        unfold SameP at h ⊢
        exact ⟨h.1.symm, h.2.1.symm, h.2.2.1.symm, h.2.2.2.1.symm, h.2.2.2.2.1.symm, h.2.2.2.2.2.1.symm, h.2.2.2.2.2.2.symm⟩
      rw [decide_eq_true hs]
      refine Ev.ite_pos rfl (Ev.ite_pos ((str_toList _ _).2 ht.2.2.symm) ?_)
      refine Ev.step (fun k => by rw [spec_AddPiece.j4]) (Ev.ite_pos (by omega) (Ev.ite_pos (by omega) ?_))
      simp only [Option.bind_some, Int.toNat_natCast, List.take_append_drop]
      exact Ev.ite_pos (by simp; omega) (Ev.bind e (Ev.ite_pos rfl (Ev.now _)))
    · have hno : ¬ ∃ j, 0 ≤ j ∧ j < l.length ∧ Twin (pc l j) b := by
        rintro ⟨j, _, hj, h⟩
        rcases Nat.lt_trichotomy j m with hh | hh | hh
        · have := hb j hh
          unfold BeforeP at this
          rw [h.2.1, h.2.2] at this
          omega
        · subst hh; exact ht h
        · have step : ∀ d, m + 1 + d < l.length → BeforeP (pc l m) (pc l (m + 1 + d)) := by
            intro d
            induction d with
            | zero => exact fun h => (hp (m + 1) (Nat.zero_le _) h).1.2.2 (by omega)
            | succ d ih =>
              intro h
              have a1 := ih (by omega)
              have a2 := (hp (m + 1 + (d + 1)) (Nat.zero_le _) h).1.2.2 (by omega)
              rw [show m + 1 + (d + 1) - 1 = m + 1 + d by omega] at a2
              unfold BeforeP at a1 a2 ⊢
              omega
          have := step (j - (m + 1)) (by omega)
          rw [show m + 1 + (j - (m + 1)) = j by omega] at this
          unfold BeforeP at this
          rw [h.2.1, h.2.2] at this
          omega
      have hg2f : g2 = false := by
        cases g2 with
        | false => rfl
        | true =>
          have a := (hg2.1 rfl).1 (m + 1) (Nat.zero_le _) (by omega)
          have a2 := a.1.2.2 (by omega)
          rw [Nat.add_sub_cancel, addIn_at l m b hm, addIn_next l m b hm'] at a2
          exact absurd a2 hbm
      subst hg2f
      refine ⟨[], false, by simp, toS _ (s2 false _ (fun h => by omega) (fun _ => (decide_eq_false hbm).symm) ?_), toI _ ((implFind_go l b h60 l.length 0 (by omega)).2 hno _ (implAt_go l b hps hx m h60 hm hb hn _ d4 m 0 (by omega))), nil⟩
      refine Ev.step (fun k => by rw [spec_AddPiece.j3]) (Ev.ite_neg (by decide) (Ev.ite_pos (by omega) (Ev.ite_pos (by omega) (Ev.opt_bind (same_val b (pc l m)) ?_))))
      by_cases hs : SameP b (pc l m)
      · rw [decide_eq_true hs]
        refine Ev.ite_pos rfl (Ev.ite_neg (fun he => ht ⟨?_, h7.1, ((str_toList _ _).1 he).symm⟩) (Ev.now _))
        unfold SameP at hs ⊢
        exact ⟨hs.1.symm, hs.2.1.symm, hs.2.2.1.symm, hs.2.2.2.1.symm, hs.2.2.2.2.1.symm, hs.2.2.2.2.2.1.symm, hs.2.2.2.2.2.2.symm⟩
      · rw [decide_eq_false hs]
        exact Ev.ite_neg (by decide) (Ev.now _)
def rows (n : Nat) (out : List Int) (there : List Bool) : Prop := out.length = n ∧ there.length = n
theorem rdOf_same (l : List Bool) (i : Nat) (h : i < l.length) (v : Bool) : rdOf false (l.set i v) (i : Int) = v := by
  simp [rdOf, List.getD_eq_getElem?_getD, h]
theorem rdOf_ne (l : List Bool) (i j : Nat) (h : i ≠ j) (v : Bool) : rdOf false (l.set i v) (j : Int) = rdOf false l (j : Int) := by
  simp [rdOf, List.getD_eq_getElem?_getD, h]
theorem bw_one (t : Nat) (h : t ≤ 1000) : wrap64 ((t : Int) + 1) = ((t + 1 : Nat) : Int) := by rw [w64 (by omega) (by omega)]; omega
theorem bw_two (x : Int) (p t : Nat) (hp : x = p) (h : p + t ≤ 1000) : wrap64 (x + (t : Int)) = ((p + t : Nat) : Int) := by subst hp; rw [w64 (by omega) (by omega)]; omega
theorem bytesIn_go (l : List PcT) (i n : Nat) (hx : PieceP (pc l i)) (h8 : (pc l i).f8 = n) (hi : i < 60) (d : Nat) : ∀ (t : Nat) (out : List Int) (there : List Bool), t + d = (pc l i).f9.size → rows n out there →
    ∃ (out' : List Int) (there' : List Bool), rows n out' there' ∧ (∀ r, Ev (fun k => spec_l4Bytes.l0 k out' there' l (l.length : Int) ((i + 1 : Nat) : Int)) r → Ev (fun k => spec_l4Bytes.l1 k out there (t : Int) l (l.length : Int) (i : Int) (pc l i).f0 (pc l i).f1 (pc l i).f2 (pc l i).f3 (pc l i).f4 (pc l i).f5 (pc l i).f6 (pc l i).f7 (pc l i).f8 (pc l i).f9) r) ∧
      (∀ s : Nat, t ≤ s → s < (pc l i).f9.size → rd out' ((pc l i).f7 + s) = bt (pc l i).f9 (s : Int) ∧ rdOf false there' ((pc l i).f7 + s) = true) ∧ ∀ a : Nat, (¬ ∃ s : Nat, t ≤ s ∧ s < (pc l i).f9.size ∧ (a : Int) = (pc l i).f7 + s) → rd out' (a : Int) = rd out (a : Int) ∧ rdOf false there' (a : Int) = rdOf false there (a : Int) := by
  have tx := hx.told
  induction d with
  | zero =>
    intro t out there hd hl
    have hw : wrap64 ((i : Int) + 1) = ((i + 1 : Nat) : Int) := by rw [w64 (by omega) (by omega)]; omega
    exact ⟨out, there, hl, fun r h => Ev.step (fun k => by rw [spec_l4Bytes.l1]) (Ev.ite_neg (by omega) (by rw [hw]; exact h)), fun s h1 h2 => by omega, fun a _ => ⟨rfl, rfl⟩⟩
  | succ d ih =>
    intro t out there hd hl
    obtain ⟨p, hp⟩ := Int.eq_ofNat_of_zero_le tx.1
    obtain ⟨l1, l2⟩ := hl
    have hb : p + t < n := by omega
    have ht : t ≤ 1000 := by omega
    have hpt : p + t ≤ 1000 := by omega
    have c1 : (t : Int) < ((pc l i).f9.size : Int) := by omega
    have c2 : (0 : Int) ≤ (t : Int) := Int.natCast_nonneg _
    have c3 : (0 : Int) ≤ ((p + t : Nat) : Int) := Int.natCast_nonneg _
    have c4 : ((p + t : Nat) : Int) < (out.length : Int) := by rw [l1]; exact Int.ofNat_lt.2 hb
    have c5 : ((p + t : Nat) : Int) < (there.length : Int) := by rw [l2]; exact Int.ofNat_lt.2 hb
    obtain ⟨out', there', h1, h2, h3, h4⟩ := ih (t + 1) (out.set (p + t) (bt (pc l i).f9 (t : Int))) (there.set (p + t) true) (by omega) ⟨by simpa using l1, by simpa using l2⟩
    refine ⟨out', there', h1, fun r h => ?_, fun s h5 h6 => ?_, fun a ha => ?_⟩
    · refine Ev.step (fun k => by rw [spec_l4Bytes.l1]) ?_
      rw [bw_two _ p t hp hpt, bw_one t ht, Int.toNat_natCast]
      exact Ev.ite_pos c1 (Ev.ite_pos c2 (Ev.ite_pos c3 (Ev.ite_pos c4 (Ev.ite_pos c5 (h2 r h)))))
    · by_cases e : s = t
      · subst e
        have := h4 (p + s) (by rintro ⟨s', h7, h8, h9⟩; omega)
        rw [show (pc l i).f7 + (s : Int) = ((p + s : Nat) : Int) by omega, this.1, this.2]
        exact ⟨rd_set_same _ _ (by rw [l1]; exact hb) _, rdOf_same _ _ (by rw [l2]; exact hb) _⟩
      · exact h3 s (by omega) h6
    · have hne : p + t ≠ a := fun e => ha ⟨t, Nat.le_refl _, by omega, by omega⟩
      have := h4 a (fun ⟨s, h5, h6, h7⟩ => ha ⟨s, by omega, h6, h7⟩)
      rw [this.1, this.2]
      exact ⟨rd_set_ne _ _ _ hne _, rdOf_ne _ _ _ hne _⟩
def wputP (xs : List Int) (o : Nat) (s : ByteArray) : List Int := xs.take o ++ bytesOf s ++ xs.drop (o + s.size)
theorem wputP_len (xs : List Int) (o : Nat) (s : ByteArray) (h : o + s.size ≤ xs.length) : (wputP xs o s).length = xs.length := by
  simp only [wputP, List.length_append, List.length_take, List.length_drop, bytesOf_length]
  omega
theorem rd_in (l : List Int) (i : Nat) (h : i < l.length) : rd l (i : Int) = l[i] := by
  simp [rd, List.getD_eq_getElem?_getD, List.getElem?_eq_getElem h]
theorem list_rd_ext {n : Nat} {xs ys : List Int} (h1 : xs.length = n) (h2 : ys.length = n) (h : ∀ a : Nat, a < n → rd xs (a : Int) = rd ys (a : Int)) : xs = ys := by
  apply List.ext_getElem (by rw [h1, h2])
  intro i h3 h4
  have := h i (by omega)
  rwa [rd_in xs i h3, rd_in ys i h4] at this
theorem wputP_in (xs : List Int) (o : Nat) (s : ByteArray) (h : o + s.size ≤ xs.length) (t : Nat) (ht : t < s.size) : rd (wputP xs o s) ((o + t : Nat) : Int) = bt s (t : Int) := by
  have hl : o + t < (wputP xs o s).length := by rw [wputP_len _ _ _ h]; omega
  have hb : t < (bytesOf s).length := by rw [bytesOf_length]; exact ht
  rw [rd_in _ _ hl, ← rd_bytesOf, rd_in _ _ hb]
  simp only [wputP]
  rw [List.getElem_append_left (by simp [bytesOf_length]; omega), List.getElem_append_right (by simp; omega)]
  congr 1
  simp
  omega
theorem wputP_out (xs : List Int) (o : Nat) (s : ByteArray) (h : o + s.size ≤ xs.length) (a : Nat) (ha : a < xs.length) (hn : a < o ∨ o + s.size ≤ a) : rd (wputP xs o s) (a : Int) = rd xs (a : Int) := by
  have hl : a < (wputP xs o s).length := by rw [wputP_len _ _ _ h]; exact ha
  rw [rd_in _ _ hl, rd_in _ _ ha]
  simp only [wputP]
  rcases hn with hn | hn
  · rw [List.getElem_append_left (by simp [bytesOf_length]; omega), List.getElem_append_left (by simp; omega)]
    simp
  · rw [List.getElem_append_right (by simp [bytesOf_length]; omega), List.getElem_drop]
    congr 1
    simp [bytesOf_length]
    omega
def wputs (l : List PcT) : Nat → Nat → List Int → List Int
  | 0, _, out => out
  | d + 1, i, out => wputs l d (i + 1) (wputP out (pc l i).f7.toNat (pc l i).f9)
def Laid (l : List PcT) (i n : Nat) (out : List Int) (there : List Bool) : Prop :=
  rows n out there ∧ (∀ j : Nat, j < i → ∀ s : Nat, s < (pc l j).f9.size → rd out ((pc l j).f7 + s) = bt (pc l j).f9 (s : Int)) ∧ ∀ a : Nat, rdOf false there (a : Int) = true ↔ ∃ j : Nat, j < i ∧ InP (pc l j) a
theorem bytes_go (l : List PcT) (n : Nat) (hl : l.length ≤ 60) (hp : PileFrom l 0) (h8 : (pc l 0).f8 = n) (d : Nat) : ∀ (i : Nat) (out : List Int) (there : List Bool), l.length - i = d → i ≤ l.length → Laid l i n out there →
    ∃ (out' : List Int) (there' : List Bool), Laid l l.length n out' there' ∧ out' = wputs l d i out ∧ Ev (fun k => spec_l4Bytes.l0 k out there l (l.length : Int) (i : Int)) (out', there') := by
  induction d with
  | zero =>
    intro i out there hd hi h
    obtain rfl : i = l.length := by omega
    exact ⟨out, there, h, rfl, Ev.step (fun k => by rw [spec_l4Bytes.l0]) (Ev.ite_neg (by omega) (Ev.now _))⟩
  | succ d ih =>
    intro i out there hd hi h
    have hlt : i < l.length := by omega
    obtain ⟨⟨hx, hs, _⟩, ha⟩ := hp i (Nat.zero_le _) hlt
    have tx := hx.told
    obtain ⟨g1, g2, g3⟩ := h
    obtain ⟨out', there', h1, h2, h3, h4⟩ := bytesIn_go l i n hx (by rw [← h8]; exact hs.2.2.2.2.2.2) (by omega) (pc l i).f9.size 0 out there (by omega) g1
    obtain ⟨p, hp'⟩ := Int.eq_ofNat_of_zero_le tx.1
    have hL : Laid l (i + 1) n out' there' := by
      refine ⟨h1, fun j hj s hs' => ?_, fun a => ?_⟩
      · by_cases e : j = i
        · subst e
          exact (h3 s (Nat.zero_le _) hs').1
        · have tj := (hp j (Nat.zero_le _) (by omega)).1.1.told
          obtain ⟨q, hq⟩ := Int.eq_ofNat_of_zero_le tj.1
          by_cases hin : ∃ s' : Nat, 0 ≤ s' ∧ s' < (pc l i).f9.size ∧ ((q + s : Nat) : Int) = (pc l i).f7 + s'
          · obtain ⟨s', _, h5, h6⟩ := hin
            rw [show (pc l j).f7 + (s : Int) = (pc l i).f7 + s' by omega, (h3 s' (Nat.zero_le _) h5).1]
            have := ha j (by omega) s' (Nat.zero_le _) h5 (by omega) (by omega)
            rw [this, show (pc l i).f7 + (s' : Int) - (pc l j).f7 = s by omega]
          · have := (h4 (q + s) hin).1
            rw [show (pc l j).f7 + (s : Int) = ((q + s : Nat) : Int) by omega, this, ← g2 j (by omega) s hs']
            rw [show (pc l j).f7 + (s : Int) = ((q + s : Nat) : Int) by omega]
      · by_cases hin : ∃ s' : Nat, 0 ≤ s' ∧ s' < (pc l i).f9.size ∧ (a : Int) = (pc l i).f7 + s'
        · obtain ⟨s', _, h5, h6⟩ := hin
          rw [h6, (h3 s' (Nat.zero_le _) h5).2]
          exact ⟨fun _ => ⟨i, by omega, by unfold InP; omega⟩, fun _ => rfl⟩
        · rw [(h4 a hin).2, g3]
          constructor
          · rintro ⟨j, hj, h5⟩; exact ⟨j, by omega, h5⟩
          · rintro ⟨j, hj, h5⟩
            by_cases e : j = i
            · subst e
              unfold InP at h5
              exact absurd ⟨a - p, Nat.zero_le _, by omega, by omega⟩ hin
            · exact ⟨j, by omega, h5⟩
    have hput : out' = wputP out (pc l i).f7.toNat (pc l i).f9 := by
      have hb : p + (pc l i).f9.size ≤ n := by
        have h8' : (pc l i).f8 = n := by rw [← h8]; exact hs.2.2.2.2.2.2
        omega
      have e7 : (pc l i).f7.toNat = p := by omega
      rw [e7]
      refine list_rd_ext h1.1 (by rw [wputP_len _ _ _ (by rw [g1.1]; exact hb)]; exact g1.1) fun a ha' => ?_
      by_cases hin : p ≤ a ∧ a < p + (pc l i).f9.size
      · obtain ⟨q, rfl⟩ := Nat.exists_eq_add_of_le hin.1
        rw [wputP_in _ _ _ (by rw [g1.1]; exact hb) q (by omega), ← (h3 q (Nat.zero_le _) (by omega)).1]
        rw [show (pc l i).f7 + (q : Int) = ((p + q : Nat) : Int) by omega]
      · rw [wputP_out _ _ _ (by rw [g1.1]; exact hb) a (by rw [g1.1]; exact ha') (by omega)]
        exact (h4 a (fun ⟨s, h5, h6, h7⟩ => hin ⟨by omega, by omega⟩)).1
    obtain ⟨out2, there2, k1, k0, k2⟩ := ih (i + 1) out' there' (by omega) (by omega) hL
    refine ⟨out2, there2, k1, by rw [k0, hput]; rfl, Ev.step (fun k => by rw [spec_l4Bytes.l0]) (Ev.ite_pos (by omega) (Ev.ite_pos (by omega) (Ev.ite_pos (by omega) ?_)))⟩
    exact h2 _ k2
theorem bytes_told (l : List PcT) (hl : l.length ≤ 60) (hp : PileFrom l 0) (h0 : 0 < l.length) : ∃ (n : Nat) (out : List Int) (there : List Bool), (pc l 0).f8 = n ∧ Laid l l.length n out there ∧ out = wputs l l.length 0 (List.replicate n 0) ∧ Ev (fun k => spec_l4Bytes.f k l) (out, there) := by
  have tx := (hp 0 (Nat.le_refl _) h0).1.1.told
  obtain ⟨n, hn⟩ := Int.eq_ofNat_of_zero_le (show 0 ≤ (pc l 0).f8 by omega)
  have hL : Laid l 0 n (List.replicate n 0) (List.replicate n false) := by
    refine ⟨⟨by simp, by simp⟩, fun j hj => by omega, fun a => ?_⟩
    constructor
    · intro h
      by_cases ha : a < n <;> simp [rdOf, List.getD_eq_getElem?_getD, List.getElem?_replicate, ha] at h
    · rintro ⟨j, hj, _⟩; omega
  obtain ⟨out, there, k1, k0, k2⟩ := bytes_go l n hl hp hn l.length 0 (List.replicate n 0) (List.replicate n false) (by omega) (by omega) hL
  refine ⟨n, out, there, hn, k1, k0, ?_⟩
  have e : (rd_T46 l 0).f8 = n := hn
  simp only [spec_l4Bytes.f, e, Int.toNat_natCast]
  exact Ev.ite_neg (by omega) (Ev.ite_pos (by omega) (Ev.ite_pos (by omega) (Ev.ite_pos (by omega) k2)))
theorem specCov_go (there : List Bool) (hl : there.length ≤ 60) (d : Nat) : ∀ (i : Nat) (acc : List Int), there.length - i = d → i ≤ there.length → acc.length ≤ i → acc.Pairwise (· < ·) → (∀ a ∈ acc, a < (i : Int)) → ∃ xs : List Int, Ev (fun k => spec_Covered.l0 k acc there (there.length : Int) (i : Int)) (xs, true) ∧ xs.Pairwise (· < ·) ∧ ∀ a, a ∈ xs ↔ a ∈ acc ∨ ∃ s : Nat, i ≤ s ∧ s < there.length ∧ rdOf false there (s : Int) = true ∧ a = s := by
  induction d with
  | zero =>
    intro i acc hd hi h1 h2 h3
    exact ⟨acc, Ev.step (fun k => by rw [spec_Covered.l0]) (Ev.ite_neg (by omega) (Ev.now _)), h2, fun a => ⟨.inl, fun h => h.elim id fun ⟨s, h4, h5, _⟩ => by omega⟩⟩
  | succ d ih =>
    intro i acc hd hi h1 h2 h3
    have hw : wrap64 ((i : Int) + 1) = ((i + 1 : Nat) : Int) := by rw [w64 (by omega) (by omega)]; omega
    by_cases hy : rdOf false there (i : Int) = true
    · obtain ⟨xs, e1, e2, e3⟩ := ih (i + 1) (acc ++ [(i : Int)]) (by omega) (by omega) (by simp; omega) (List.pairwise_append.2 ⟨h2, List.pairwise_singleton _ _, fun a ha b hb => by
        obtain rfl : b = (i : Int) := by simpa using hb
        exact h3 a ha⟩) (fun a ha => by
          rcases List.mem_append.1 ha with h | h
          · have := h3 a h; omega
          · obtain rfl : a = (i : Int) := by simpa using h
            omega)
      refine ⟨xs, Ev.step (fun k => by rw [spec_Covered.l0]) (Ev.ite_pos (by omega) (Ev.ite_pos (by omega) (Ev.ite_pos (by omega) (Ev.ite_pos hy (Ev.ite_pos (by omega) (by rw [hw]; exact e1)))))), e2, fun a => (e3 a).trans ?_⟩
      rw [List.mem_append, List.mem_singleton]
      constructor
      · rintro ((h | h) | ⟨s, h4, h5, h6, h7⟩)
        · exact .inl h
        · exact .inr ⟨i, Nat.le_refl _, by omega, hy, h⟩
        · exact .inr ⟨s, by omega, h5, h6, h7⟩
      · rintro (h | ⟨s, h4, h5, h6, h7⟩)
        · exact .inl (.inl h)
        · by_cases e : s = i
          · subst e; exact .inl (.inr h7)
          · exact .inr ⟨s, by omega, h5, h6, h7⟩
    · obtain ⟨xs, e1, e2, e3⟩ := ih (i + 1) acc (by omega) (by omega) (by omega) h2 (fun a ha => by have := h3 a ha; omega)
      refine ⟨xs, Ev.step (fun k => by rw [spec_Covered.l0]) (Ev.ite_pos (by omega) (Ev.ite_pos (by omega) (Ev.ite_pos (by omega) (Ev.ite_neg hy (by rw [hw]; exact e1))))), e2, fun a => (e3 a).trans ?_⟩
      constructor
      · rintro (h | ⟨s, h4, h5, h6, h7⟩)
        · exact .inl h
        · exact .inr ⟨s, by omega, h5, h6, h7⟩
      · rintro (h | ⟨s, h4, h5, h6, h7⟩)
        · exact .inl h
        · by_cases e : s = i
          · subst e; exact absurd h6 hy
          · exact .inr ⟨s, by omega, h5, h6, h7⟩
theorem specCovered_told (l : List PcT) (hl : l.length ≤ 60) (hp : PileFrom l 0) (he : Ev (fun k => spec_GoodPile.f k l) true) : ∃ xs : List Int, Ev (fun k => spec_Covered.f k l) (xs, true) ∧ xs.Pairwise (· < ·) ∧ ∀ a, a ∈ xs ↔ ∃ j : Nat, j < l.length ∧ InP (pc l j) a := by
  simp only [spec_Covered.f]
  by_cases h0 : 0 < l.length
  · obtain ⟨n, out, there, hn, ⟨⟨g1, g2⟩, _, g3⟩, _, e⟩ := bytes_told l hl hp h0
    have t0 := (hp 0 (Nat.le_refl _) h0).1.1.told
    obtain ⟨xs, e1, e2, e3⟩ := specCov_go there (by omega) _ 0 [] rfl (by omega) (by simp) List.Pairwise.nil (by simp)
    refine ⟨xs, Ev.bind he (Ev.ite_pos rfl (Ev.bind e e1)), e2, fun a => (e3 a).trans ?_⟩
    constructor
    · rintro (h | ⟨s, _, h5, h6, rfl⟩)
      · simp at h
      · exact (g3 s).1 h6
    · rintro ⟨j, hj, h⟩
      obtain ⟨⟨hx, hs, _⟩, _⟩ := hp j (Nat.zero_le _) hj
      have tj := hx.told
      have h8 : (pc l j).f8 = (pc l 0).f8 := hs.2.2.2.2.2.2
      have h' := h
      unfold InP at h'
      refine .inr ⟨a.toNat, Nat.zero_le _, by omega, (g3 a.toNat).2 ⟨j, hj, ?_⟩, by omega⟩
      rw [show ((a.toNat : Nat) : Int) = a by omega]
      exact h
  · have e0 : Ev (fun k => spec_l4Bytes.f k l) (([] : List Int), ([] : List Bool)) := by
      simp only [spec_l4Bytes.f]
      exact Ev.ite_pos (by omega) (Ev.now _)
    refine ⟨[], Ev.bind he (Ev.ite_pos rfl (Ev.bind e0 (Ev.step (fun k => by rw [spec_Covered.l0]) (Ev.ite_neg (by simp) (Ev.now _))))), List.Pairwise.nil, fun a => ⟨fun h => by simp at h, fun ⟨j, hj, _⟩ => by omega⟩⟩
theorem covered_both (l : List PcT) (hl : l.length ≤ 60) (hp : PileFrom l 0) (hs : Ev (fun k => spec_GoodPile.f k l) true) (hi : Ev (fun k => impl_GoodPile.f k l) true) : ∃ xs : List Int, Ev (fun k => spec_Covered.f k l) (xs, true) ∧ Ev (fun k => impl_Pile_covered.f k l) xs ∧ xs.Pairwise (· < ·) ∧ ∀ a, a ∈ xs ↔ ∃ j : Nat, j < l.length ∧ InP (pc l j) a := by
  obtain ⟨xs, e1, e2, e3⟩ := specCovered_told l hl hp hs
  obtain ⟨ys, f1, f2, f3⟩ := implCovered_told l hl (fun j hj => (hp j (Nat.zero_le _) hj).1.1)
  have : xs = ys := strict_uniq xs ys e2 f2 fun a => (e3 a).trans (f3 a).symm
  subst this
  exact ⟨xs, e1, f1, e2, e3⟩
theorem strict_len : ∀ (xs : List Int) (lo hi : Int), xs.Pairwise (· < ·) → (∀ a ∈ xs, lo ≤ a ∧ a < hi) → lo ≤ hi → (xs.length : Int) ≤ hi - lo
  | [], lo, hi, _, _, h => by simp; omega
  | x :: xs, lo, hi, h, hb, hle => by
    rw [List.pairwise_cons] at h
    have hx := hb x (by simp)
    have := strict_len xs (x + 1) hi h.2 (fun a ha => ⟨by have := h.1 a ha; omega, (hb a (by simp [ha])).2⟩) (by omega)
    simp only [List.length_cons]
    omega
theorem covered_told (l : List PcT) (hl : l.length ≤ 60) (hp : PileFrom l 0) (hi : Ev (fun k => impl_GoodPile.f k l) true) : ∃ xs : List Int, Ev (fun k => impl_Covered.f k l) (xs, true) ∧ xs.length ≤ 100 ∧ ∀ a, a ∈ xs ↔ ∃ x ∈ l, InP x a := by
  obtain ⟨xs, e, h1, h2⟩ := implCovered_told l hl fun j hj => (hp j (Nat.zero_le _) hj).1.1
  refine ⟨xs, ?_, ?_, fun a => ?_⟩
  · simp only [impl_Covered.f]
    exact Ev.bind hi (Ev.ite_pos rfl (Ev.bind e (Ev.now _)))
  · have := strict_len xs 0 100 h1 (fun c hc => by
      obtain ⟨j, hj, h⟩ := (h2 c).1 hc
      have t := (hp j (Nat.zero_le _) hj).1.1.told
      unfold InP at h
      omega) (by omega)
    omega
  · rw [h2]
    constructor
    · rintro ⟨j, hj, h⟩
      exact ⟨pc l j, pc_mem hj, h⟩
    · rintro ⟨x, hx, h⟩
      obtain ⟨j, hj, e⟩ := List.getElem_of_mem hx
      exact ⟨j, hj, by rw [pc_get _ _ hj, e]; exact h⟩
end Go.Proofs.Ytlkbbolkadkedaa.Pure
