import Derived.Test.YtlkbbolkadkedaaQFnExactWholeOfx14
import Derived.Test.YtlkbbolkadkedaaPlain
import Derived.Test.YtlkbbolkadkedaaGoalFnExactMissingIn
set_option linter.unusedVariables false
set_option linter.unusedSimpArgs false
namespace Go.Proofs.Ytlkbbolkadkedaa.Pure
open Go.RowKit Go.Proofs.Ytlkbbolkadkedaa.QFnExactWholeOf Go.Proofs.YtlkbbolkadkedaaW.PrintWords Go.Proofs.YtlkbbolkadkedaaW.PrintLast Go.Proofs.Ytlkbbolkadkedaa.Plain Go.Proofs.Ytlkbbolkadkedaa.GoalFnExactMissingIn
def GoodP (f t mk no life hops off tot : Int) (n : Nat) : Prop :=
  (0 ≤ f ∧ f ≤ 40) ∧ (0 ≤ t ∧ t ≤ 40) ∧ (0 ≤ mk ∧ mk ≤ 1000000) ∧ (0 ≤ no ∧ no ≤ 1000) ∧ (1 ≤ life ∧ life ≤ 1000000) ∧ (0 ≤ hops ∧ hops ≤ 30) ∧ n ≤ 60 ∧
    ((tot = 0 ∧ off = 0) ∨ (1 ≤ tot ∧ tot ≤ 60 ∧ 0 ≤ off ∧ off + n ≤ tot ∧ 0 < n))
instance (f t mk no life hops off tot : Int) (n : Nat) : Decidable (GoodP f t mk no life hops off tot n) := by unfold GoodP; infer_instance
theorem specIn (a b c : Int) : spec_l1In.f a b c = some (decide (b ≤ a ∧ a ≤ c)) := by
  unfold spec_l1In.f
  by_cases h : b ≤ a <;> simp [h]
theorem specGoodH (a0 a1 : Int) (a2 : Bool) (a3 a4 a5 a6 a7 a8 : Int) (a9 : ByteArray) :
    Ev (fun k => spec_GoodBundle.f k a0 a1 a2 a3 a4 a5 a6 a7 a8 a9) (decide (GoodP a0 a1 a3 a4 a5 a6 a7 a8 a9.size)) := by
  have no : ¬ GoodP a0 a1 a3 a4 a5 a6 a7 a8 a9.size → Ev (fun k => spec_GoodBundle.j0 k true a0 a1 a2 a3 a4 a5 a6 a7 a8 a9) (decide (GoodP a0 a1 a3 a4 a5 a6 a7 a8 a9.size)) := fun h => by
    rw [decide_eq_false h]; exact Ev.step (fun k => by rw [spec_GoodBundle.j0]) (Ev.ite_pos rfl (Ev.now _))
  simp only [spec_GoodBundle.f, specIn, Option.bind_some, decide_eq_true_eq]
  refine Ev.ite (fun h0 => ?_) fun h => no (by unfold GoodP; omega)
  refine Ev.ite (fun h1 => ?_) fun h => no (by unfold GoodP; omega)
  refine Ev.ite (fun h3 => ?_) fun h => no (by unfold GoodP; omega)
  refine Ev.ite (fun h4 => ?_) fun h => no (by unfold GoodP; omega)
  refine Ev.ite (fun h5 => ?_) fun h => no (by unfold GoodP; omega)
  refine Ev.ite (fun h6 => ?_) fun h => no (by unfold GoodP; omega)
  refine Ev.ite (fun hn => no (by unfold GoodP; omega)) fun hn => ?_
  refine Ev.ite (fun h8 => ?_) fun h => no (by unfold GoodP; omega)
  by_cases h7 : 0 ≤ a7 ∧ a7 ≤ a8
  case neg =>
    rw [decide_eq_false h7]
    exact no (by unfold GoodP; omega)
  rw [decide_eq_true h7]
  refine Ev.step (fun k => by rw [spec_GoodBundle.j0]) (Ev.ite_neg (by decide) ?_)
  refine Ev.ite (fun hz => Ev.now' (decide_eq_true (by unfold GoodP; omega)).symm) fun hz => ?_
  refine Ev.ite (fun hp => Ev.now' ?_) fun hp => Ev.now' (decide_eq_false (by unfold GoodP; omega)).symm
  rw [w64 (by omega) (by omega)]
  exact decide_eq_decide.mpr (by unfold GoodP; omega)
theorem implWithin (a b c : Int) : impl_within.f a b c = some (decide (b ≤ a ∧ a ≤ c)) := by
  unfold impl_within.f
  by_cases h : b ≤ a <;> simp [h]
theorem implGood_no (a0 a1 : Int) (a2 : Bool) (a3 a4 a5 a6 a7 a8 : Int) (a9 : ByteArray) : Ev (fun k => impl_GoodBundle.j0 k true a0 a1 a2 a3 a4 a5 a6 a7 a8 a9) false := by
  refine Ev.step (fun k => by rw [impl_GoodBundle.j0]) ?_
  exact Ev.ite_pos rfl (Ev.now _)
theorem isEmpty_size (s : ByteArray) : s.toList.isEmpty = decide (s.size = 0) := by
  rw [ByteArray.toList_eq, ← size_data]
  cases s.data.toList <;> simp
theorem implGood_end (a0 a1 : Int) (a2 : Bool) (a3 a4 a5 a6 a7 a8 : Int) (a9 : ByteArray) (h8 : -9223372036854775808 ≤ a8 ∧ a8 ≤ 9223372036854775807) (h : a9.size ≤ 60) :
    Ev (fun k => impl_GoodBundle.j0 k (decide ((a9.size : Int) > 60)) a0 a1 a2 a3 a4 a5 a6 a7 a8 a9) (decide ((a8 = 0 ∧ a7 = 0) ∨ (1 ≤ a8 ∧ a8 ≤ 60 ∧ 0 ≤ a7 ∧ a7 + a9.size ≤ a8 ∧ 0 < a9.size))) := by
  rw [decide_eq_false (show ¬ (a9.size : Int) > 60 by omega)]
  refine Ev.step (fun k => by rw [impl_GoodBundle.j0]) ?_
  refine Ev.ite_neg (by simp) ?_
  by_cases hz : a8 = 0
  · refine Ev.ite_pos hz (Ev.now' ?_)
    rw [show (a7 == 0) = decide (a7 = 0) from rfl]
    exact decide_eq_decide.mpr (by omega)
  · refine Ev.ite_neg hz ?_
    rw [implWithin, implWithin, isEmpty_size]
    simp only [Option.bind_some, decide_eq_true_eq]
    by_cases h1 : 1 ≤ a8 ∧ a8 ≤ 60
    · refine Ev.ite_pos h1 ?_
      rw [w64 (by omega) (by omega)]
      by_cases h2 : 0 ≤ a7 ∧ a7 ≤ a8 - (a9.size : Int)
      · refine Ev.ite_pos h2 (Ev.now' ?_)
        by_cases h3 : a9.size = 0
        · rw [decide_eq_true h3, decide_eq_false (show ¬ _ by omega)]; rfl
        · rw [decide_eq_false h3, decide_eq_true (show _ by omega)]; rfl
      · refine Ev.ite_neg h2 (Ev.now' (decide_eq_false (by omega)).symm)
    · refine Ev.ite_neg h1 (Ev.now' (decide_eq_false (by omega)).symm)
theorem implGood (a0 a1 : Int) (a2 : Bool) (a3 a4 a5 a6 a7 a8 : Int) (a9 : ByteArray) (h8 : -9223372036854775808 ≤ a8 ∧ a8 ≤ 9223372036854775807) :
    Ev (fun k => impl_GoodBundle.f k a0 a1 a2 a3 a4 a5 a6 a7 a8 a9) (decide (GoodP a0 a1 a3 a4 a5 a6 a7 a8 a9.size)) := by
  have no : ¬ GoodP a0 a1 a3 a4 a5 a6 a7 a8 a9.size → Ev (fun k => impl_GoodBundle.j0 k true a0 a1 a2 a3 a4 a5 a6 a7 a8 a9) (decide (GoodP a0 a1 a3 a4 a5 a6 a7 a8 a9.size)) := fun h => by
    rw [decide_eq_false h]; exact implGood_no ..
  simp only [impl_GoodBundle.f, implWithin, Option.bind_some, decide_eq_true_eq]
  refine Ev.ite (fun h0 => ?_) fun h => no (by unfold GoodP; omega)
  refine Ev.ite (fun h1 => ?_) fun h => no (by unfold GoodP; omega)
  refine Ev.ite (fun h3 => ?_) fun h => no (by unfold GoodP; omega)
  refine Ev.ite (fun h4 => ?_) fun h => no (by unfold GoodP; omega)
  refine Ev.ite (fun h5 => ?_) fun h => no (by unfold GoodP; omega)
  refine Ev.ite (fun h6 => ?_) fun h => no (by unfold GoodP; omega)
  by_cases hn : a9.size ≤ 60
  · have e : decide (GoodP a0 a1 a3 a4 a5 a6 a7 a8 a9.size) = decide ((a8 = 0 ∧ a7 = 0) ∨ (1 ≤ a8 ∧ a8 ≤ 60 ∧ 0 ≤ a7 ∧ a7 + a9.size ≤ a8 ∧ 0 < a9.size)) :=
      decide_eq_decide.mpr (by unfold GoodP; omega)
    rw [e]
    exact implGood_end a0 a1 a2 a3 a4 a5 a6 a7 a8 a9 h8 hn
  · rw [decide_eq_true (show (a9.size : Int) > 60 by omega)]
    exact no (by unfold GoodP; omega)
abbrev PcT := S46
abbrev pc (l : List PcT) (i : Nat) : PcT := rd_T46 l (i : Int)
def PieceP (x : PcT) : Prop := GoodP x.f0 x.f1 x.f3 x.f4 x.f5 x.f6 x.f7 x.f8 x.f9.size ∧ x.f8 ≠ 0
def SameP (x y : PcT) : Prop := x.f0 = y.f0 ∧ x.f1 = y.f1 ∧ x.f2 = y.f2 ∧ x.f3 = y.f3 ∧ x.f4 = y.f4 ∧ x.f5 = y.f5 ∧ x.f8 = y.f8
instance (x y : PcT) : Decidable (SameP x y) := by unfold SameP; infer_instance
def BeforeP (x y : PcT) : Prop := x.f7 < y.f7 ∨ (x.f7 = y.f7 ∧ x.f9.size < y.f9.size)
instance (x y : PcT) : Decidable (BeforeP x y) := by unfold BeforeP; infer_instance
def AgreeFrom (x y : PcT) (s : Nat) : Prop := ∀ t : Nat, s ≤ t → t < x.f9.size → 0 ≤ x.f7 + t - y.f7 → x.f7 + t - y.f7 < (y.f9.size : Int) → bt x.f9 (t : Int) = bt y.f9 (x.f7 + t - y.f7)
def HeadP (l : List PcT) (i : Nat) : Prop := PieceP (pc l i) ∧ SameP (pc l i) (pc l 0) ∧ (0 < i → BeforeP (pc l (i - 1)) (pc l i))
def RightP (l : List PcT) (i : Nat) : Prop := HeadP l i ∧ ∀ j : Nat, j < i → AgreeFrom (pc l i) (pc l j) 0
def PileFrom (l : List PcT) (i : Nat) : Prop := ∀ j : Nat, i ≤ j → j < l.length → RightP l j
theorem PileFrom.step {l : List PcT} {i : Nat} (h : i < l.length) : PileFrom l i ↔ RightP l i ∧ PileFrom l (i + 1) := by
  constructor
  · exact fun H => ⟨H i (Nat.le_refl _) h, fun j h1 h2 => H j (by omega) h2⟩
  · rintro ⟨a, b⟩ j h1 h2
    by_cases e : j = i
    · subst e; exact a
    · exact b j (by omega) h2
theorem PieceP.told {x : PcT} (h : PieceP x) : 0 ≤ x.f7 ∧ x.f7 ≤ 60 ∧ x.f9.size ≤ 60 ∧ 0 < x.f9.size ∧ x.f7 + x.f9.size ≤ x.f8 ∧ x.f8 ≤ 60 ∧ 0 < x.f8 := by
  obtain ⟨h, h0⟩ := h
  unfold GoodP at h
  omega
theorem same_val (x y : PcT) : spec_l4Same.f x.f0 x.f1 x.f2 x.f3 x.f4 x.f5 x.f6 x.f7 x.f8 x.f9 y.f0 y.f1 y.f2 y.f3 y.f4 y.f5 y.f6 y.f7 y.f8 y.f9 = some (decide (SameP x y)) := by
  unfold spec_l4Same.f SameP
  by_cases h0 : x.f0 = y.f0 <;> by_cases h1 : x.f1 = y.f1 <;> by_cases h2 : x.f2 = y.f2 <;> by_cases h3 : x.f3 = y.f3 <;> by_cases h4 : x.f4 = y.f4 <;> by_cases h5 : x.f5 = y.f5 <;> by_cases h8 : x.f8 = y.f8 <;> simp [h0, h1, h2, h3, h4, h5, h8]
theorem before_val (x y : PcT) : spec_l4Before.f x.f0 x.f1 x.f2 x.f3 x.f4 x.f5 x.f6 x.f7 x.f8 x.f9 y.f0 y.f1 y.f2 y.f3 y.f4 y.f5 y.f6 y.f7 y.f8 y.f9 = some (decide (BeforeP x y)) := by
  unfold spec_l4Before.f
  by_cases h0 : x.f7 < y.f7
  · rw [if_pos h0, decide_eq_true (show BeforeP x y from Or.inl h0)]
  · rw [if_neg h0]
    by_cases h1 : x.f7 = y.f7
    · rw [if_pos h1]
      exact congrArg some (decide_eq_decide.mpr (by unfold BeforeP; omega))
    · rw [if_neg h1, decide_eq_false (show ¬ BeforeP x y by unfold BeforeP; omega)]
theorem agree_go (x y : PcT) (hx : PieceP x) (hy : PieceP y) (d : Nat) : ∀ t : Nat, x.f9.size - t = d → ∃ b : Bool, Ev (fun k => spec_l4Agrees.l0 k (t : Int) x.f0 x.f1 x.f2 x.f3 x.f4 x.f5 x.f6 x.f7 x.f8 x.f9 y.f0 y.f1 y.f2 y.f3 y.f4 y.f5 y.f6 y.f7 y.f8 y.f9) b ∧ (b = true ↔ AgreeFrom x y t) := by
  have tx := hx.told
  have ty := hy.told
  induction d with
  | zero =>
    intro t hd
    refine ⟨true, Ev.step (fun k => by rw [spec_l4Agrees.l0]) (Ev.ite_neg (by omega) (Ev.now _)), ⟨fun _ s h1 h2 => by omega, fun _ => rfl⟩⟩
  | succ d ih =>
    intro t hd
    obtain ⟨b, e, hb⟩ := ih (t + 1) (by omega)
    have hw : wrap64 ((t : Int) + 1) = ((t + 1 : Nat) : Int) := by rw [w64 (by omega) (by omega)]; omega
    have hk : wrap64 (wrap64 (x.f7 + (t : Int)) - y.f7) = x.f7 + t - y.f7 := by rw [w64 (x := x.f7 + (t : Int)) (by omega) (by omega), w64 (by omega) (by omega)]
    have next : Ev (fun k => spec_l4Agrees.j1 k (t : Int) false x.f0 x.f1 x.f2 x.f3 x.f4 x.f5 x.f6 x.f7 x.f8 x.f9 y.f0 y.f1 y.f2 y.f3 y.f4 y.f5 y.f6 y.f7 y.f8 y.f9) b := by
      refine Ev.step (fun k => by rw [spec_l4Agrees.j1]) (Ev.ite_neg (by decide) ?_)
      rw [hw]
      exact e
    by_cases hin : 0 ≤ x.f7 + t - y.f7 ∧ x.f7 + t - y.f7 < (y.f9.size : Int)
    · by_cases hbt : bt x.f9 (t : Int) = bt y.f9 (x.f7 + t - y.f7)
      · refine ⟨b, ?_, hb.trans ⟨fun H s h1 h2 h3 h4 => ?_, fun H s h1 h2 => H s (by omega) h2⟩⟩
        · refine Ev.step (fun k => by rw [spec_l4Agrees.l0]) ?_
          rw [hk]
          refine Ev.ite_pos (by omega) (Ev.ite_pos hin.1 (Ev.ite_pos hin.2 (Ev.ite_pos (by omega) (Ev.ite_pos hin.1 ?_))))
          rw [show (bt x.f9 (t : Int) != bt y.f9 (x.f7 + t - y.f7)) = false by simp [hbt]]
          exact next
        · by_cases es : s = t
          · subst es; exact hbt
          · exact H s (by omega) h2 h3 h4
      · refine ⟨false, ?_, ⟨fun h => absurd h (by decide), fun H => absurd (H t (Nat.le_refl _) (by omega) hin.1 hin.2) hbt⟩⟩
        refine Ev.step (fun k => by rw [spec_l4Agrees.l0]) ?_
        rw [hk]
        refine Ev.ite_pos (by omega) (Ev.ite_pos hin.1 (Ev.ite_pos hin.2 (Ev.ite_pos (by omega) (Ev.ite_pos hin.1 ?_))))
        rw [show (bt x.f9 (t : Int) != bt y.f9 (x.f7 + t - y.f7)) = true by simpa using hbt]
        exact Ev.step (fun k => by rw [spec_l4Agrees.j1]) (Ev.ite_pos rfl (Ev.now _))
    · refine ⟨b, ?_, hb.trans ⟨fun H s h1 h2 h3 h4 => ?_, fun H s h1 h2 => H s (by omega) h2⟩⟩
      · refine Ev.step (fun k => by rw [spec_l4Agrees.l0]) ?_
        rw [hk]
        refine Ev.ite_pos (by omega) (Ev.ite (fun h0 => Ev.ite_neg (fun h1 => hin ⟨h0, h1⟩) next) (fun _ => next))
      · by_cases es : s = t
        · subst es; exact absurd ⟨h3, h4⟩ hin
        · exact H s (by omega) h2 h3 h4
theorem pc_take (l : List PcT) (i j : Nat) (h : j < i) (hi : i ≤ l.length) : rd_T46 (l.take i) (j : Int) = pc l j := by
  simp [pc, rd_T46, List.getD_eq_getElem?_getD, h]
theorem specInner_go (l : List PcT) (hl : l.length ≤ 1048576) (i : Nat) (hi : i < l.length) (hp : ∀ j : Nat, j ≤ i → PieceP (pc l j)) (R : Prop) (b' : Bool) (e' : Ev (fun k => spec_GoodPile.l0 k l (l.length : Int) ((i + 1 : Nat) : Int) l) b') (hb' : b' = true ↔ R) (d : Nat) :
    ∀ j : Nat, i - j = d → j ≤ i → ∃ b : Bool, Ev (fun k => spec_GoodPile.l1 k l (l.length : Int) (i : Int) (l.take i) (i : Int) (j : Int) l (pc l i).f0 (pc l i).f1 (pc l i).f2 (pc l i).f3 (pc l i).f4 (pc l i).f5 (pc l i).f6 (pc l i).f7 (pc l i).f8 (pc l i).f9) b ∧ (b = true ↔ (∀ j' : Nat, j ≤ j' → j' < i → AgreeFrom (pc l i) (pc l j') 0) ∧ R) := by
  induction d with
  | zero =>
    intro j hd hj
    have hw : wrap64 ((i : Int) + 1) = ((i + 1 : Nat) : Int) := by rw [w64 (by omega) (by omega)]; omega
    refine ⟨b', Ev.step (fun k => by rw [spec_GoodPile.l1]) (Ev.ite_neg (by omega) (by rw [hw]; exact e')), hb'.trans ⟨fun h => ⟨fun j' h1 h2 => by omega, h⟩, fun h => h.2⟩⟩
  | succ d ih =>
    intro j hd hj
    have hw : wrap64 ((j : Int) + 1) = ((j + 1 : Nat) : Int) := by rw [w64 (by omega) (by omega)]; omega
    obtain ⟨b, e, hb⟩ := ih (j + 1) (by omega) (by omega)
    obtain ⟨c, ec, hc⟩ := agree_go (pc l i) (pc l j) (hp i (Nat.le_refl _)) (hp j hj) _ 0 rfl
    have hlen : (l.take i).length = i := by simp; omega
    have start : ∀ r, Ev (fun k => if c = true then spec_GoodPile.l1 k l (l.length : Int) (i : Int) (l.take i) (i : Int) (wrap64 ((j : Int) + 1)) l (pc l i).f0 (pc l i).f1 (pc l i).f2 (pc l i).f3 (pc l i).f4 (pc l i).f5 (pc l i).f6 (pc l i).f7 (pc l i).f8 (pc l i).f9 else some false) r →
        Ev (fun k => spec_GoodPile.l1 k l (l.length : Int) (i : Int) (l.take i) (i : Int) (j : Int) l (pc l i).f0 (pc l i).f1 (pc l i).f2 (pc l i).f3 (pc l i).f4 (pc l i).f5 (pc l i).f6 (pc l i).f7 (pc l i).f8 (pc l i).f9) r := by
      intro r h
      refine Ev.step (fun k => by rw [spec_GoodPile.l1]) (Ev.ite_pos (by omega) (Ev.ite_pos (by omega) (Ev.ite_pos (by rw [hlen]; omega) ?_)))
      rw [pc_take l i j (by omega) (by omega)]
      exact Ev.bind ec h
    cases c with
    | true =>
      refine ⟨b, start b (Ev.ite_pos rfl (by rw [hw]; exact e)), hb.trans ⟨fun h => ⟨fun j' h1 h2 => ?_, h.2⟩, fun h => ⟨fun j' h1 h2 => h.1 j' (by omega) h2, h.2⟩⟩⟩
      by_cases ej : j' = j
      · subst ej; exact hc.1 rfl
      · exact h.1 j' (by omega) h2
    | false => exact ⟨false, start false (Ev.ite_neg (by decide) (Ev.now _)), ⟨fun h => absurd h (by decide), fun h => absurd (hc.2 (h.1 j (Nat.le_refl _) (by omega))) (by decide)⟩⟩
theorem specPile_go (l : List PcT) (hl : l.length ≤ 1048576) (d : Nat) : ∀ i : Nat, l.length - i = d → i ≤ l.length → (∀ j : Nat, j < i → PieceP (pc l j)) → ∃ b : Bool, Ev (fun k => spec_GoodPile.l0 k l (l.length : Int) (i : Int) l) b ∧ (b = true ↔ PileFrom l i ∧ l.length ≤ 60) := by
  induction d with
  | zero =>
    intro i hd hi _
    refine ⟨decide ((l.length : Int) ≤ 60), Ev.step (fun k => by rw [spec_GoodPile.l0]) (Ev.ite_neg (by omega) (Ev.now _)), ?_⟩
    rw [decide_eq_true_iff]
    exact ⟨fun h => ⟨fun j h1 h2 => by omega, by omega⟩, fun h => by omega⟩
  | succ d ih =>
    intro i hd hi hp
    have hlt : i < l.length := by omega
    have hg := specGoodH (pc l i).f0 (pc l i).f1 (pc l i).f2 (pc l i).f3 (pc l i).f4 (pc l i).f5 (pc l i).f6 (pc l i).f7 (pc l i).f8 (pc l i).f9
    have bad : Ev (fun k => spec_GoodPile.j1 k (i : Int) l (l.length : Int) (i : Int) true l (pc l i).f0 (pc l i).f1 (pc l i).f2 (pc l i).f3 (pc l i).f4 (pc l i).f5 (pc l i).f6 (pc l i).f7 (pc l i).f8 (pc l i).f9) false := Ev.step (fun k => by rw [spec_GoodPile.j1]) (Ev.ite_pos rfl (Ev.now _))
    have out : ¬ HeadP l i → (false = true ↔ PileFrom l i ∧ l.length ≤ 60) := fun h => ⟨fun x => absurd x (by decide), fun x => absurd ((PileFrom.step hlt).1 x.1).1.1 h⟩
    by_cases h0 : GoodP (pc l i).f0 (pc l i).f1 (pc l i).f3 (pc l i).f4 (pc l i).f5 (pc l i).f6 (pc l i).f7 (pc l i).f8 (pc l i).f9.size
    case neg =>
      rw [decide_eq_false h0] at hg
      refine ⟨false, Ev.step (fun k => by rw [spec_GoodPile.l0]) (Ev.ite_pos (by omega) (Ev.ite_pos (by omega) (Ev.ite_pos (by omega) (Ev.bind hg ?_)))), out fun h => h0 h.1.1⟩
      exact Ev.ite_neg Bool.false_ne_true bad
    rw [decide_eq_true h0] at hg
    by_cases h8 : (pc l i).f8 = 0
    · refine ⟨false, Ev.step (fun k => by rw [spec_GoodPile.l0]) (Ev.ite_pos (by omega) (Ev.ite_pos (by omega) (Ev.ite_pos (by omega) (Ev.bind hg ?_)))), out fun h => h.1.2 h8⟩
      refine Ev.ite_pos rfl ?_
      exact Ev.ite_pos h8 bad
    have hx : PieceP (pc l i) := ⟨h0, h8⟩
    by_cases hs : SameP (pc l i) (pc l 0)
    case neg =>
      refine ⟨false, Ev.step (fun k => by rw [spec_GoodPile.l0]) (Ev.ite_pos (by omega) (Ev.ite_pos (by omega) (Ev.ite_pos (by omega) (Ev.bind hg ?_)))), out fun h => hs h.2.1⟩
      refine Ev.ite_pos rfl ?_
      refine Ev.ite_neg h8 ?_
      refine Ev.ite_pos (by omega) ?_
      refine Ev.opt_bind (same_val (pc l i) (pc l 0)) ?_
      rw [decide_eq_false hs]
      exact Ev.ite_neg (by decide) bad
    have hp' : ∀ j : Nat, j ≤ i → PieceP (pc l j) := fun j hj => by
      by_cases e : j = i
      · subst e; exact hx
      · exact hp j (by omega)
    obtain ⟨b', e', hb'⟩ := ih (i + 1) (by omega) (by omega) (fun j hj => hp' j (by omega))
    obtain ⟨b, e, hb⟩ := specInner_go l hl i hlt hp' _ b' e' hb' i 0 (by omega) (by omega)
    have go : Ev (fun k => spec_GoodPile.j1 k (i : Int) l (l.length : Int) (i : Int) false l (pc l i).f0 (pc l i).f1 (pc l i).f2 (pc l i).f3 (pc l i).f4 (pc l i).f5 (pc l i).f6 (pc l i).f7 (pc l i).f8 (pc l i).f9) b := by
      refine Ev.step (fun k => by rw [spec_GoodPile.j1]) (Ev.ite_neg (by decide) (Ev.ite_pos (by omega) (Ev.ite_pos (by omega) ?_)))
      simp only [Int.toNat_natCast, Option.bind_some]
      rw [show ((l.take i).length : Int) = (i : Int) by simp; omega]
      exact e
    by_cases hi0 : 0 < i
    · have hw : wrap64 ((i : Int) - 1) = ((i - 1 : Nat) : Int) := by rw [w64 (by omega) (by omega)]; omega
      by_cases hbf : BeforeP (pc l (i - 1)) (pc l i)
      · refine ⟨b, Ev.step (fun k => by rw [spec_GoodPile.l0]) (Ev.ite_pos (by omega) (Ev.ite_pos (by omega) (Ev.ite_pos (by omega) (Ev.bind hg ?_)))), hb.trans ?_⟩
        · refine Ev.ite_pos rfl ?_
          refine Ev.ite_neg h8 ?_
          refine Ev.ite_pos (by omega) ?_
          refine Ev.opt_bind (same_val (pc l i) (pc l 0)) ?_
          rw [decide_eq_true hs, hw]
          refine Ev.ite_pos rfl (Ev.ite_pos (by omega) (Ev.ite_pos (by omega) (Ev.ite_pos (by omega) (Ev.opt_bind (before_val (pc l (i - 1)) (pc l i)) ?_))))
          rw [decide_eq_true hbf]
          exact go
        · rw [PileFrom.step hlt]
          exact ⟨fun h => ⟨⟨⟨⟨hx, hs, fun _ => hbf⟩, fun j hj => h.1 j (Nat.zero_le _) hj⟩, h.2.1⟩, h.2.2⟩, fun h => ⟨fun j _ hj => h.1.1.2 j hj, h.1.2, h.2⟩⟩
      · refine ⟨false, Ev.step (fun k => by rw [spec_GoodPile.l0]) (Ev.ite_pos (by omega) (Ev.ite_pos (by omega) (Ev.ite_pos (by omega) (Ev.bind hg ?_)))), out fun h => hbf (h.2.2 hi0)⟩
        refine Ev.ite_pos rfl ?_
        refine Ev.ite_neg h8 ?_
        refine Ev.ite_pos (by omega) ?_
        refine Ev.opt_bind (same_val (pc l i) (pc l 0)) ?_
        rw [decide_eq_true hs, hw]
        refine Ev.ite_pos rfl (Ev.ite_pos (by omega) (Ev.ite_pos (by omega) (Ev.ite_pos (by omega) (Ev.opt_bind (before_val (pc l (i - 1)) (pc l i)) ?_))))
        rw [decide_eq_false hbf]
        exact bad
    · refine ⟨b, Ev.step (fun k => by rw [spec_GoodPile.l0]) (Ev.ite_pos (by omega) (Ev.ite_pos (by omega) (Ev.ite_pos (by omega) (Ev.bind hg ?_)))), hb.trans ?_⟩
      · refine Ev.ite_pos rfl ?_
        refine Ev.ite_neg h8 ?_
        refine Ev.ite_pos (by omega) ?_
        refine Ev.opt_bind (same_val (pc l i) (pc l 0)) ?_
        rw [decide_eq_true hs]
        exact Ev.ite_pos rfl (Ev.ite_neg (by omega) go)
      · rw [PileFrom.step hlt]
        exact ⟨fun h => ⟨⟨⟨⟨hx, hs, fun h0 => absurd h0 hi0⟩, fun j hj => h.1 j (Nat.zero_le _) hj⟩, h.2.1⟩, h.2.2⟩, fun h => ⟨fun j _ hj => h.1.1.2 j hj, h.1.2, h.2⟩⟩
theorem specPile (l : List PcT) (hl : l.length ≤ 1048576) : ∃ b : Bool, Ev (fun k => spec_GoodPile.f k l) b ∧ (b = true ↔ PileFrom l 0 ∧ l.length ≤ 60) := by
  simpa [spec_GoodPile.f] using specPile_go l hl _ 0 rfl (by omega) (fun j hj => by omega)
def Rep (l : List PcT) (i : Nat) (kn : Int → Option Int) : Prop :=
  (∀ a c, kn a = some c → ∃ j : Nat, j < i ∧ ∃ t : Nat, t < (pc l j).f9.size ∧ (pc l j).f7 + t = a ∧ bt (pc l j).f9 (t : Int) = c) ∧
    ∀ j : Nat, j < i → ∀ t : Nat, t < (pc l j).f9.size → kn ((pc l j).f7 + t) = some (bt (pc l j).f9 (t : Int))
theorem gpIn_good (x : PcT) (hx : PieceP x) (d : Nat) : ∀ (j : Nat) (kn : Int → Option Int), j + d = x.f9.size → (∀ t : Nat, j ≤ t → t < x.f9.size → (kn (x.f7 + t)).getD (bt x.f9 (t : Int)) = bt x.f9 (t : Int)) →
    ∃ kn', gpIn x d (j : Int) kn = some kn' ∧ (∀ t : Nat, j ≤ t → t < x.f9.size → kn' (x.f7 + t) = some (bt x.f9 (t : Int))) ∧ ∀ a, (¬ ∃ t : Nat, j ≤ t ∧ t < x.f9.size ∧ a = x.f7 + t) → kn' a = kn a := by
  have tx := hx.told
  induction d with
  | zero => exact fun j kn hd _ => ⟨kn, rfl, fun t h1 h2 => by omega, fun a _ => rfl⟩
  | succ d ih =>
    intro j kn hd h
    have hw : wrap64 (x.f7 + (j : Int)) = x.f7 + j := w64 (by omega) (by omega)
    obtain ⟨kn', e, h1, h2⟩ := ih (j + 1) (fun y => if y = x.f7 + j then some (bt x.f9 (j : Int)) else kn y) (by omega) (fun t h3 h4 => by
      rw [if_neg (by omega)]
      exact h t (by omega) h4)
    refine ⟨kn', ?_, fun t h3 h4 => ?_, fun a ha => ?_⟩
    · rw [gpIn, hw, if_pos (h j (Nat.le_refl _) (by omega))]
      exact e
    · by_cases et : t = j
      · subst et
        rw [h2 _ (by rintro ⟨s, h5, h6, h7⟩; omega), if_pos rfl]
      · exact h1 t (by omega) h4
    · rw [h2 a (fun ⟨t, h5, h6, h7⟩ => ha ⟨t, by omega, h6, h7⟩), if_neg (fun e => ha ⟨j, Nat.le_refl _, by omega, e⟩)]
theorem gpIn_bad (x : PcT) (hx : PieceP x) (d : Nat) : ∀ (j : Nat) (kn : Int → Option Int), j + d = x.f9.size → (∃ t : Nat, j ≤ t ∧ t < x.f9.size ∧ (kn (x.f7 + t)).getD (bt x.f9 (t : Int)) ≠ bt x.f9 (t : Int)) → gpIn x d (j : Int) kn = none := by
  have tx := hx.told
  induction d with
  | zero => rintro j kn hd ⟨t, h1, h2, _⟩; omega
  | succ d ih =>
    rintro j kn hd ⟨t, h1, h2, h3⟩
    have hw : wrap64 (x.f7 + (j : Int)) = x.f7 + j := w64 (by omega) (by omega)
    rw [gpIn, hw]
    by_cases hj : (kn (x.f7 + j)).getD (bt x.f9 (j : Int)) = bt x.f9 (j : Int)
    · rw [if_pos hj]
      have hne : t ≠ j := by rintro rfl; exact h3 hj
      refine ih (j + 1) _ (by omega) ⟨t, by omega, h2, ?_⟩
      rw [if_neg (by omega)]
      exact h3
    · rw [if_neg hj]
theorem rep_agree {l : List PcT} {i : Nat} {kn : Int → Option Int} (h : Rep l i kn) (x : PcT) : (∀ t : Nat, t < x.f9.size → (kn (x.f7 + t)).getD (bt x.f9 (t : Int)) = bt x.f9 (t : Int)) ↔ ∀ j : Nat, j < i → AgreeFrom x (pc l j) 0 := by
  constructor
  · intro H j hj t _ ht h0 h1
    obtain ⟨k, hk⟩ := Int.eq_ofNat_of_zero_le h0
    have a := h.2 j hj k (by omega)
    have b := H t ht
    rw [show x.f7 + (t : Int) = (pc l j).f7 + k by omega, a] at b
    rw [hk]
    exact b.symm
  · intro H t ht
    cases hk : kn (x.f7 + t) with
    | none => rfl
    | some c =>
      obtain ⟨j, hj, s, hs, e1, e2⟩ := h.1 _ _ hk
      have := H j hj t (Nat.zero_le _) ht (by omega) (by omega)
      rw [this, show x.f7 + (t : Int) - (pc l j).f7 = s by omega, e2]
      rfl
theorem rep_next {l : List PcT} {i : Nat} {kn kn' : Int → Option Int} (h : Rep l i kn) (ha : ∀ j : Nat, j < i → AgreeFrom (pc l i) (pc l j) 0) (h1 : ∀ t : Nat, 0 ≤ t → t < (pc l i).f9.size → kn' ((pc l i).f7 + t) = some (bt (pc l i).f9 (t : Int)))
    (h2 : ∀ a, (¬ ∃ t : Nat, 0 ≤ t ∧ t < (pc l i).f9.size ∧ a = (pc l i).f7 + t) → kn' a = kn a) : Rep l (i + 1) kn' := by
  refine ⟨fun a c hc => ?_, fun j hj t ht => ?_⟩
  · by_cases hin : ∃ t : Nat, 0 ≤ t ∧ t < (pc l i).f9.size ∧ a = (pc l i).f7 + t
    · obtain ⟨t, _, ht, rfl⟩ := hin
      rw [h1 t (Nat.zero_le _) ht] at hc
      exact ⟨i, by omega, t, ht, rfl, Option.some.inj hc⟩
    · rw [h2 a hin] at hc
      obtain ⟨j, hj, r⟩ := h.1 a c hc
      exact ⟨j, by omega, r⟩
  · by_cases e : j = i
    · subst e; exact h1 t (Nat.zero_le _) ht
    · by_cases hin : ∃ s : Nat, 0 ≤ s ∧ s < (pc l i).f9.size ∧ (pc l j).f7 + t = (pc l i).f7 + s
      · obtain ⟨s, _, hs, e2⟩ := hin
        rw [e2, h1 s (Nat.zero_le _) hs]
        have := ha j (by omega) s (Nat.zero_le _) hs (by omega) (by omega)
        rw [this, show (pc l i).f7 + (s : Int) - (pc l j).f7 = t by omega]
      · rw [h2 _ hin]
        exact h.2 j (by omega) t ht
theorem piece_val (x : PcT) (h : -9223372036854775808 ≤ x.f8 ∧ x.f8 ≤ 9223372036854775807) : ∃ b : Bool, Ev (fun k => impl_isPiece.f k x.f0 x.f1 x.f2 x.f3 x.f4 x.f5 x.f6 x.f7 x.f8 x.f9) b ∧ (b = true ↔ PieceP x) := by
  have hg := implGood x.f0 x.f1 x.f2 x.f3 x.f4 x.f5 x.f6 x.f7 x.f8 x.f9 h
  by_cases h0 : GoodP x.f0 x.f1 x.f3 x.f4 x.f5 x.f6 x.f7 x.f8 x.f9.size
  · rw [decide_eq_true h0] at hg
    refine ⟨decide (x.f8 > 0), ?_, ?_⟩
    · simp only [impl_isPiece.f]
      exact Ev.bind hg (Ev.ite_pos rfl (Ev.now _))
    · rw [decide_eq_true_iff]
      refine ⟨fun h1 => ⟨h0, by omega⟩, fun h1 => ?_⟩
      have := PieceP.told h1
      omega
  · rw [decide_eq_false h0] at hg
    refine ⟨false, ?_, ⟨fun h1 => absurd h1 (by decide), fun h1 => absurd h1.1 h0⟩⟩
    simp only [impl_isPiece.f]
    exact Ev.bind hg (Ev.ite_neg (by decide) (Ev.now _))
theorem order_val (p x : PcT) (hp : PieceP p) (hx : PieceP x) : ∃ n : Int, impl_order.f p.f0 p.f1 p.f2 p.f3 p.f4 p.f5 p.f6 p.f7 p.f8 p.f9 x.f0 x.f1 x.f2 x.f3 x.f4 x.f5 x.f6 x.f7 x.f8 x.f9 = some n ∧ (n ≥ 0 ↔ ¬ BeforeP p x) := by
  have tp := hp.told
  have tx := hx.told
  unfold impl_order.f BeforeP
  by_cases h : p.f7 = x.f7
  · rw [if_pos h]
    refine ⟨_, rfl, ?_⟩
    rw [w64 (by omega) (by omega)]
    omega
  · rw [if_neg h]
    refine ⟨_, rfl, ?_⟩
    rw [w64 (by omega) (by omega)]
    omega
theorem implPile_go (l : List PcT) (hl : l.length ≤ 60) (h8 : ∀ j : Nat, j < l.length → -9223372036854775808 ≤ (pc l j).f8 ∧ (pc l j).f8 ≤ 9223372036854775807) (d : Nat) : ∀ (i : Nat) (kn : Int → Option Int), l.length - i = d → i ≤ l.length → (∀ j : Nat, j < i → PieceP (pc l j)) → Rep l i kn →
    ∃ b : Bool, Ev (fun k => impl_GoodPile.l0 k l (l.length : Int) (i : Int) l kn) b ∧ (b = true ↔ PileFrom l i) := by
  induction d with
  | zero =>
    intro i kn hd hi _ _
    exact ⟨true, Ev.step (fun k => by rw [impl_GoodPile.l0]) (Ev.ite_neg (by omega) (Ev.now _)), ⟨fun _ j h1 h2 => by omega, fun _ => rfl⟩⟩
  | succ d ih =>
    intro i kn hd hi hp hr
    have hlt : i < l.length := by omega
    obtain ⟨c, ec, hc⟩ := piece_val (pc l i) (h8 i hlt)
    have bad : Ev (fun k => impl_GoodPile.j1 k l (l.length : Int) (i : Int) true l kn) false := Ev.step (fun k => by rw [impl_GoodPile.j1]) (Ev.ite_pos rfl (Ev.now _))
    have out : ¬ HeadP l i → (false = true ↔ PileFrom l i) := fun h => ⟨fun x => absurd x (by decide), fun x => absurd ((PileFrom.step hlt).1 x).1.1 h⟩
    cases c with
    | false =>
      refine ⟨false, Ev.step (fun k => by rw [impl_GoodPile.l0]) (Ev.ite_pos (by omega) (Ev.ite_pos (by omega) (Ev.ite_pos (by omega) (Ev.bind ec ?_)))), out fun h => absurd (hc.2 h.1) (by decide)⟩
      exact Ev.ite_neg Bool.false_ne_true bad
    | true =>
      have hx : PieceP (pc l i) := hc.1 rfl
      have tx := hx.told
      have hsame : (!((pc l i).f0 == (pc l 0).f0) || (!((pc l i).f1 == (pc l 0).f1) || (!((pc l i).f2 == (pc l 0).f2) || (!((pc l i).f3 == (pc l 0).f3) || (!((pc l i).f4 == (pc l 0).f4) || (!((pc l i).f5 == (pc l 0).f5) || (!((0 : Int) == 0) || (!((0 : Int) == 0) || (!((pc l i).f8 == (pc l 0).f8) || (!((⟨#[]⟩ : ByteArray).toList == (⟨#[]⟩ : ByteArray).toList))))))))))) = !decide (SameP (pc l i) (pc l 0)) := by
        unfold SameP
        by_cases h0 : (pc l i).f0 = (pc l 0).f0 <;> by_cases h1 : (pc l i).f1 = (pc l 0).f1 <;> by_cases h2 : (pc l i).f2 = (pc l 0).f2 <;> by_cases h3 : (pc l i).f3 = (pc l 0).f3 <;> by_cases h4 : (pc l i).f4 = (pc l 0).f4 <;> by_cases h5 : (pc l i).f5 = (pc l 0).f5 <;> by_cases h6 : (pc l i).f8 = (pc l 0).f8 <;> simp [h0, h1, h2, h3, h4, h5, h6]
      have start : ∀ r, Ev (fun k => if (!decide (SameP (pc l i) (pc l 0))) = true then impl_GoodPile.j1 k l (l.length : Int) (i : Int) true l kn else (if (i : Int) > 0 then (if 0 ≤ (wrap64 ((i : Int) - 1)) then (if (wrap64 ((i : Int) - 1)) < (l.length : Int) then ((impl_order.f (rd_T46 l (wrap64 ((i : Int) - 1))).f0 (rd_T46 l (wrap64 ((i : Int) - 1))).f1 (rd_T46 l (wrap64 ((i : Int) - 1))).f2 (rd_T46 l (wrap64 ((i : Int) - 1))).f3 (rd_T46 l (wrap64 ((i : Int) - 1))).f4 (rd_T46 l (wrap64 ((i : Int) - 1))).f5 (rd_T46 l (wrap64 ((i : Int) - 1))).f6 (rd_T46 l (wrap64 ((i : Int) - 1))).f7 (rd_T46 l (wrap64 ((i : Int) - 1))).f8 (rd_T46 l (wrap64 ((i : Int) - 1))).f9 (pc l i).f0 (pc l i).f1 (pc l i).f2 (pc l i).f3 (pc l i).f4 (pc l i).f5 (pc l i).f6 (pc l i).f7 (pc l i).f8 (pc l i).f9).bind fun n => impl_GoodPile.j1 k l (l.length : Int) (i : Int) (decide (n ≥ 0)) l kn) else none) else none) else impl_GoodPile.j1 k l (l.length : Int) (i : Int) false l kn)) r →
          Ev (fun k => impl_GoodPile.l0 k l (l.length : Int) (i : Int) l kn) r := by
        intro r h
        refine Ev.step (fun k => by rw [impl_GoodPile.l0]) (Ev.ite_pos (by omega) (Ev.ite_pos (by omega) (Ev.ite_pos (by omega) (Ev.bind ec (Ev.ite_pos rfl ?_)))))
        simp only [impl_of.f, Option.bind_some]
        refine Ev.ite_pos (by omega) ?_
        rw [← hsame] at h
        exact h
      by_cases hs : SameP (pc l i) (pc l 0)
      case neg => exact ⟨false, start _ (Ev.ite_pos (by rw [decide_eq_false hs]; rfl) bad), out fun h => hs h.2.1⟩
      have hp' : ∀ j : Nat, j ≤ i → PieceP (pc l j) := fun j hj => by
        by_cases e : j = i
        · subst e; exact hx
        · exact hp j (by omega)
      have go : ∃ b : Bool, Ev (fun k => impl_GoodPile.j1 k l (l.length : Int) (i : Int) false l kn) b ∧ (b = true ↔ (∀ j : Nat, j < i → AgreeFrom (pc l i) (pc l j) 0) ∧ PileFrom l (i + 1)) := by
        have hw : wrap64 ((i : Int) + 1) = ((i + 1 : Nat) : Int) := by rw [w64 (by omega) (by omega)]; omega
        by_cases ha : ∀ t : Nat, t < (pc l i).f9.size → (kn ((pc l i).f7 + t)).getD (bt (pc l i).f9 (t : Int)) = bt (pc l i).f9 (t : Int)
        · obtain ⟨kn', e, k1, k2⟩ := gpIn_good (pc l i) hx (pc l i).f9.size 0 kn (by omega) (fun t _ ht => ha t ht)
          have ha' := (rep_agree hr (pc l i)).1 ha
          obtain ⟨b, eb, hb⟩ := ih (i + 1) kn' (by omega) (by omega) (fun j hj => hp' j (by omega)) (rep_next hr ha' k1 k2)
          refine ⟨b, Ev.step (fun k => by rw [impl_GoodPile.j1]) (Ev.ite_neg (by decide) (Ev.ite_pos tx.2.2.1 ?_)), hb.trans ⟨fun h => ⟨ha', h⟩, fun h => h.2⟩⟩
          have e' : gpIn (rd_T46 l (i : Int)) (rd_T46 l (i : Int)).f9.size 0 kn = some kn' := e
          rw [e', hw]
          exact Ev.ite_pos rfl eb
        · have hb : ∃ t : Nat, 0 ≤ t ∧ t < (pc l i).f9.size ∧ (kn ((pc l i).f7 + t)).getD (bt (pc l i).f9 (t : Int)) ≠ bt (pc l i).f9 (t : Int) := by
            exact Classical.byContradiction fun hn => ha fun t ht => Classical.byContradiction fun h => hn ⟨t, Nat.zero_le _, ht, h⟩
          have e := gpIn_bad (pc l i) hx (pc l i).f9.size 0 kn (by omega) hb
          refine ⟨false, Ev.step (fun k => by rw [impl_GoodPile.j1]) (Ev.ite_neg (by decide) (Ev.ite_pos tx.2.2.1 ?_)), ⟨fun h => absurd h (by decide), fun h => absurd ((rep_agree hr (pc l i)).2 h.1) ha⟩⟩
          have e' : gpIn (rd_T46 l (i : Int)) (rd_T46 l (i : Int)).f9.size 0 kn = none := e
          rw [e']
          exact Ev.ite_neg (by decide) (Ev.now _)
      obtain ⟨b, eb, hb⟩ := go
      by_cases hi0 : 0 < i
      · have hw : wrap64 ((i : Int) - 1) = ((i - 1 : Nat) : Int) := by rw [w64 (by omega) (by omega)]; omega
        obtain ⟨n, en, hn⟩ := order_val (pc l (i - 1)) (pc l i) (hp' (i - 1) (by omega)) hx
        by_cases hbf : BeforeP (pc l (i - 1)) (pc l i)
        · refine ⟨b, start b (Ev.ite_neg (by rw [decide_eq_true hs]; decide) ?_), hb.trans ?_⟩
          · rw [hw]
            refine Ev.ite_pos (by omega) (Ev.ite_pos (by omega) (Ev.ite_pos (by omega) (Ev.opt_bind en ?_)))
            rw [decide_eq_false (fun h => hn.1 h hbf)]
            exact eb
          · rw [PileFrom.step hlt]
            exact ⟨fun h => ⟨⟨⟨hx, hs, fun _ => hbf⟩, h.1⟩, h.2⟩, fun h => ⟨h.1.2, h.2⟩⟩
        · refine ⟨false, start _ (Ev.ite_neg (by rw [decide_eq_true hs]; decide) ?_), out fun h => hbf (h.2.2 hi0)⟩
          rw [hw]
          refine Ev.ite_pos (by omega) (Ev.ite_pos (by omega) (Ev.ite_pos (by omega) (Ev.opt_bind en ?_)))
          rw [decide_eq_true (hn.2 hbf)]
          exact bad
      · refine ⟨b, start b (Ev.ite_neg (by rw [decide_eq_true hs]; decide) (Ev.ite_neg (by omega) eb)), hb.trans ?_⟩
        rw [PileFrom.step hlt]
        exact ⟨fun h => ⟨⟨⟨hx, hs, fun h0 => absurd h0 hi0⟩, h.1⟩, h.2⟩, fun h => ⟨h.1.2, h.2⟩⟩
theorem implPile (l : List PcT) (h8 : ∀ j : Nat, j < l.length → -9223372036854775808 ≤ (pc l j).f8 ∧ (pc l j).f8 ≤ 9223372036854775807) : ∃ b : Bool, Ev (fun k => impl_GoodPile.f k l) b ∧ (b = true ↔ PileFrom l 0 ∧ l.length ≤ 60) := by
  simp only [impl_GoodPile.f]
  by_cases h : (l.length : Int) > 60
  · exact ⟨false, Ev.ite_pos h (Ev.now _), ⟨fun x => absurd x (by decide), fun x => by omega⟩⟩
  · obtain ⟨b, e, hb⟩ := implPile_go l (by omega) h8 _ 0 (fun _ => none) rfl (by omega) (fun j hj => by omega) ⟨fun a c h => by simp at h, fun j hj => by omega⟩
    exact ⟨b, Ev.ite_neg h e, hb.trans ⟨fun h' => ⟨h', by omega⟩, fun h' => h'.1⟩⟩
theorem eqBundle_self (a0 a1 : Int) (a2 : Bool) (a3 a4 a5 a6 a7 a8 : Int) (a9 : ByteArray) : laws_eqBundle.f a0 a1 a2 a3 a4 a5 a6 a7 a8 a9 a0 a1 a2 a3 a4 a5 a6 a7 a8 a9 = some true := by
  simp [laws_eqBundle.f]
theorem rdBL_eq (l : List S42) (i : Nat) (h : i < l.length) : rd_T42 l (i : Int) = l[i] := by
  simp [rd_T42, List.getD_eq_getElem?_getD, List.getElem?_eq_getElem h]
def bundleOf (x : S42) : S46 := ⟨x.f0, x.f1, x.f2, x.f3, x.f4, x.f5, x.f6, x.f7, x.f8, x.f9⟩
theorem szBundleS_go (l : List S42) (hl : l.length ≤ 1048576) (hs : ∀ i : Nat, i < l.length → (rd_T42 l (i : Int)).f9.size ≤ maxLen) (d : Nat) : ∀ (i : Nat) (left : Int), i ≤ l.length → l.length - i = d → 0 ≤ left → left ≤ 1048576 →
    ∃ r, Ev (fun k => laws_szBundleS.l0 k l left (i : Int)) r ∧ (0 ≤ r → ∀ j : Nat, i ≤ j → j < l.length → (rd_T42 l (j : Int)).f9.size ≤ 1048576) := by
  induction d with
  | zero =>
    intro i left h0 hd h1 h2
    refine ⟨left, ?_, fun _ j h3 h4 => by omega⟩
    refine Ev.step (fun k => by rw [laws_szBundleS.l0]) ?_
    exact Ev.ite_neg (by omega) (Ev.now _)
  | succ d ih =>
    intro i left h0 hd h1 h2
    have hi : i < l.length := by omega
    have hw : wrap64 ((i : Int) + 1) = ((i + 1 : Nat) : Int) := by rw [w64 (by omega) (by omega)]; omega
    have hz := hs i hi
    unfold maxLen at hz
    have hw2 : wrap64 (left - ((rd_T42 l (i : Int)).f9.size : Int)) = left - ((rd_T42 l (i : Int)).f9.size : Int) := w64 (by omega) (by omega)
    by_cases hn : left - ((rd_T42 l (i : Int)).f9.size : Int) < 0
    · refine ⟨-1, ?_, fun h => by omega⟩
      refine Ev.step (fun k => by rw [laws_szBundleS.l0]) ?_
      refine Ev.ite_pos (by omega) (Ev.ite_pos (by omega) ?_)
      simp only [laws_szBundle.f, hw2, if_pos hn, Option.bind_some]
      exact Ev.ite_pos (by omega) (Ev.now _)
    · obtain ⟨r, a, b⟩ := ih (i + 1) (left - ((rd_T42 l (i : Int)).f9.size : Int)) (by omega) (by omega) (by omega) (by omega)
      refine ⟨r, ?_, fun h j h3 h4 => ?_⟩
      · refine Ev.step (fun k => by rw [laws_szBundleS.l0]) ?_
        refine Ev.ite_pos (by omega) (Ev.ite_pos (by omega) ?_)
        simp only [laws_szBundle.f, hw2, if_neg hn, Option.bind_some]
        rw [hw]
        exact a
      · rcases Nat.lt_or_ge i j with h5 | h5
        · exact b h j h5 h4
        · obtain rfl : j = i := by omega
          omega
theorem szBundleS_val (l : List S42) (hl : l.length ≤ maxLen) (hs : ∀ i : Nat, i < l.length → (rd_T42 l (i : Int)).f9.size ≤ maxLen) :
    ∃ r, Ev (fun k => laws_szBundleS.f k l 1048576) r ∧ (0 ≤ r → l.length ≤ 1048576 ∧ ∀ j : Nat, j < l.length → (rd_T42 l (j : Int)).f9.size ≤ 1048576) := by
  unfold maxLen at hl
  have hw : wrap64 (1048576 - (l.length : Int)) = 1048576 - (l.length : Int) := w64 (by omega) (by omega)
  simp only [laws_szBundleS.f, hw]
  by_cases h : 1048576 - (l.length : Int) < 0
  · exact ⟨-1, Ev.ite_pos h (Ev.now _), fun h => by omega⟩
  · obtain ⟨r, a, b⟩ := szBundleS_go l (by omega) hs l.length 0 (1048576 - (l.length : Int)) (by omega) (by omega) (by omega) (by omega)
    exact ⟨r, Ev.ite_neg h a, fun h' => ⟨by omega, fun j hj => b h' j (by omega) hj⟩⟩
theorem toBundleS_go (l : List S42) (hl : l.length ≤ 1048576) (d : Nat) : ∀ i : Nat, i ≤ l.length → l.length - i = d → Ev (fun k => laws_toBundleS.l0 k l ((l.map bundleOf).take i ++ List.replicate ((l.map bundleOf).length - i) z46) (i : Int)) (l.map bundleOf) := by
  induction d with
  | zero =>
    intro i h0 hd
    obtain rfl : i = l.length := by omega
    refine Ev.step (fun k => by rw [laws_toBundleS.l0]) ?_
    exact Ev.ite_neg (by omega) (Ev.now' (by rw [List.length_map, Nat.sub_self, List.replicate_zero, List.append_nil, List.take_of_length_le (by simp)]))
  | succ d ih =>
    intro i h0 hd
    have hlt : i < l.length := by omega
    have hlt2 : i < (l.map bundleOf).length := by simpa using hlt
    have hw : wrap64 ((i : Int) + 1) = ((i + 1 : Nat) : Int) := by rw [w64 (by omega) (by omega)]; omega
    have hlen : ((l.map bundleOf).take i ++ List.replicate ((l.map bundleOf).length - i) z46).length = l.length := by simp; omega
    have a := ih (i + 1) (by omega) (by omega)
    rw [← fill_step (l.map bundleOf) z46 i hlt2] at a
    refine Ev.step (fun k => by rw [laws_toBundleS.l0]) ?_
    refine Ev.ite_pos (by omega) (Ev.ite_pos (by omega) ?_)
    simp only [laws_toBundle.f, Option.bind_some, hw, Int.toNat_natCast, rdBL_eq l i hlt]
    refine Ev.ite_pos (by rw [hlen]; omega) ?_
    have e : (l.map bundleOf)[i] = (⟨l[i].f0, l[i].f1, l[i].f2, l[i].f3, l[i].f4, l[i].f5, l[i].f6, l[i].f7, l[i].f8, l[i].f9⟩ : S46) := by simp [bundleOf]
    rw [e] at a
    exact a
theorem toBundleS_val (l : List S42) (hl : l.length ≤ 1048576) : Ev (fun k => laws_toBundleS.f k l) (l.map bundleOf) := by
  have := toBundleS_go l hl l.length 0 (by omega) (by omega)
  simp only [laws_toBundleS.f, Int.toNat_natCast]
  refine Ev.ite_pos (by omega) (Ev.ite_pos (by omega) ?_)
  simpa using this
theorem eqBundleS_go (l : List S46) (hl : l.length ≤ 1048576) (d : Nat) : ∀ i : Nat, l.length - i = d → Ev (fun k => laws_eqBundleS.l0 k l l (i : Int)) true := by
  induction d with
  | zero =>
    intro i hd
    refine Ev.step (fun k => by rw [laws_eqBundleS.l0]) ?_
    exact Ev.ite_neg (by omega) (Ev.now _)
  | succ d ih =>
    intro i hd
    have hw : wrap64 ((i : Int) + 1) = ((i + 1 : Nat) : Int) := by rw [w64 (by omega) (by omega)]; omega
    refine Ev.step (fun k => by rw [laws_eqBundleS.l0]) ?_
    refine Ev.ite_pos (by omega) (Ev.ite_pos (by omega) (Ev.ite_pos (by omega) ?_))
    simp only [eqBundle_self, if_true, Option.bind_some, hw]
    exact ih (i + 1) (by omega)
theorem eqBundleS_self (l : List S46) (hl : l.length ≤ 1048576) : Ev (fun k => laws_eqBundleS.f k l l) true := by
  simp only [laws_eqBundleS.f, if_true]
  exact (eqBundleS_go l hl l.length 0 (by omega))
theorem pc_map (l : List S42) (h : ∀ x ∈ l, ok42 x) : ∀ j : Nat, j < (l.map bundleOf).length → -9223372036854775808 ≤ (pc (l.map bundleOf) j).f8 ∧ (pc (l.map bundleOf) j).f8 ≤ 9223372036854775807 := by
  intro j hj
  have hj' : j < l.length := by simpa using hj
  have e : pc (l.map bundleOf) j = bundleOf l[j] := by simp [pc, rd_T46, List.getD_eq_getElem?_getD, hj']
  rw [e]
  have := h l[j] (List.getElem_mem hj')
  unfold ok42 at this
  exact wf_i64 this.2.2.2.2.2.2.2.2.1
theorem bundle_sizes (l : List S42) (h : ∀ x ∈ l, ok42 x) : ∀ i : Nat, i < l.length → (rd_T42 l (i : Int)).f9.size ≤ maxLen := by
  intro i hi
  rw [rdBL_eq l i hi]
  have := h l[i] (List.getElem_mem hi)
  unfold ok42 at this
  exact this.2.2.2.2.2.2.2.2.2
theorem pile_both (l : List PcT) (hl : l.length ≤ 1048576) (h8 : ∀ j : Nat, j < l.length → -9223372036854775808 ≤ (pc l j).f8 ∧ (pc l j).f8 ≤ 9223372036854775807) :
    ∃ b : Bool, Ev (fun k => spec_GoodPile.f k l) b ∧ Ev (fun k => impl_GoodPile.f k l) b ∧ (b = true ↔ PileFrom l 0 ∧ l.length ≤ 60) := by
  obtain ⟨b, e, h⟩ := specPile l hl
  obtain ⟨c, f, g⟩ := implPile l h8
  have : b = c := by
    cases b <;> cases c <;> first | rfl | exact absurd (h.2 (g.1 rfl)) (by decide) | exact absurd (g.2 (h.1 rfl)) (by decide)
  subst this
  exact ⟨b, e, f, h⟩
theorem compactUp (d : Array Int) (hd : ∀ i j, i < j → j < d.size → d[i]! ≤ d[j]!) : ∀ m, m ≤ d.size → (Go.Lib.compactUpTo d m).Pairwise (· < ·) ∧ (∀ a, a ∈ Go.Lib.compactUpTo d m ↔ ∃ j, j < m ∧ d[j]! = a) := by
  intro m
  induction m with
  | zero => exact fun _ => ⟨by simp [Go.Lib.compactUpTo], fun a => by simp [Go.Lib.compactUpTo]⟩
  | succ m ih =>
    intro hm
    obtain ⟨h1, h2⟩ := ih (by omega)
    rw [Go.Lib.compactUpTo_succ]
    by_cases hk : Go.Lib.keeps d m = true
    · rw [if_pos hk]
      refine ⟨List.pairwise_append.2 ⟨h1, List.pairwise_singleton _ _, fun a ha b hb => ?_⟩, fun a => ?_⟩
      · obtain rfl : b = d[m]! := by simpa using hb
        obtain ⟨j, hj, rfl⟩ := (h2 a).1 ha
        have hne : d[m - 1]! ≠ d[m]! := by
          simp [Go.Lib.keeps] at hk
          rcases hk with hk | hk
          · omega
          · first | exact fun e => hk e.symm | exact hk
        have l1 := hd (m - 1) m (by omega) (by omega)
        have l2 : d[j]! ≤ d[m - 1]! := by
          by_cases e : j = m - 1
          · rw [e]; exact Int.le_refl _
          · exact hd j (m - 1) (by omega) (by omega)
        omega
      · rw [List.mem_append, h2]
        constructor
        · rintro (⟨j, hj, e⟩ | h)
          · exact ⟨j, by omega, e⟩
          · exact ⟨m, by omega, (List.mem_singleton.1 h).symm⟩
        · rintro ⟨j, hj, e⟩
          by_cases ej : j = m
          · subst ej; exact .inr (by simp [e])
          · exact .inl ⟨j, by omega, e⟩
    · rw [if_neg hk, List.append_nil]
      refine ⟨h1, fun a => (h2 a).trans ⟨fun ⟨j, hj, e⟩ => ⟨j, by omega, e⟩, fun ⟨j, hj, e⟩ => ?_⟩⟩
      by_cases ej : j = m
      · subst ej
        have hk' : j ≠ 0 ∧ d[j]! = d[j - 1]! := by
          simp [Go.Lib.keeps] at hk
          omega
        exact ⟨j - 1, by omega, by rw [← hk'.2]; exact e⟩
      · exact ⟨j, by omega, e⟩
theorem compact_sorted (xs : List Int) : (Go.Lib.compact (xs.mergeSort fun x y => decide (x ≤ y))).Pairwise (· < ·) ∧ ∀ a, a ∈ Go.Lib.compact (xs.mergeSort fun x y => decide (x ≤ y)) ↔ a ∈ xs := by
  have hs := List.pairwise_mergeSort (le := fun x y : Int => decide (x ≤ y)) (fun a b c h1 h2 => by simp at *; omega) (fun a b => by simp; omega) xs
  generalize hz : (xs.mergeSort fun x y => decide (x ≤ y)) = zs at hs ⊢
  have hp : ∀ a, a ∈ zs ↔ a ∈ xs := fun a => by rw [← hz]; exact List.mem_mergeSort
  have hd : ∀ i j, i < j → j < zs.toArray.size → zs.toArray[i]! ≤ zs.toArray[j]! := fun i j hij hj => by
    have hj' : j < zs.length := by simpa using hj
    have := List.pairwise_iff_getElem.1 hs i j (by omega) hj' hij
    simpa [getElem!_pos, show i < zs.length by omega, hj'] using this
  obtain ⟨h1, h2⟩ := compactUp zs.toArray hd zs.length (by simp)
  refine ⟨h1, fun a => (h2 a).trans ⟨fun ⟨j, hj, e⟩ => (hp a).1 ?_, fun h => ?_⟩⟩
  · rw [← e]; simp [hj]
  · obtain ⟨j, hj, e⟩ := List.getElem_of_mem ((hp a).2 h)
    exact ⟨j, hj, by simpa [hj] using e⟩
theorem strict_uniq : ∀ (xs ys : List Int), xs.Pairwise (· < ·) → ys.Pairwise (· < ·) → (∀ a, a ∈ xs ↔ a ∈ ys) → xs = ys
  | [], [], _, _, _ => rfl
  | [], y :: ys, _, _, h => absurd ((h y).2 (by simp)) (by simp)
  | x :: xs, [], _, _, h => absurd ((h x).1 (by simp)) (by simp)
  | x :: xs, y :: ys, h1, h2, h => by
    rw [List.pairwise_cons] at h1 h2
    have e : x = y := by
      have a := (h x).1 (by simp)
      have b := (h y).2 (by simp)
      rcases List.mem_cons.1 a with a | a
      · exact a
      · rcases List.mem_cons.1 b with b | b
        · exact b.symm
        · have := h2.1 x a; have := h1.1 y b; omega
    subst e
    refine congrArg _ (strict_uniq xs ys h1.2 h2.2 fun a => ?_)
    constructor
    · intro ha
      rcases List.mem_cons.1 ((h a).1 (by simp [ha])) with e | e
      · have := h1.1 a ha; omega
      · exact e
    · intro ha
      rcases List.mem_cons.1 ((h a).2 (by simp [ha])) with e | e
      · have := h2.1 a ha; omega
      · exact e
def InP (x : PcT) (a : Int) : Prop := x.f7 ≤ a ∧ a < x.f7 + x.f9.size
theorem covIn_go (l : List PcT) (i : Nat) (hx : PieceP (pc l i)) (res : List Int → List Int) (hres : ∀ acc : List Int, acc.length ≤ 60 * (i + 1) → Ev (fun k => impl_Pile_covered.l0 k acc l (l.length : Int) (wrap64 ((i : Int) + 1))) (res acc)) (hi : i < 60) (d : Nat) :
    ∀ (t : Nat) (acc : List Int), t + d = (pc l i).f9.size → acc.length ≤ 60 * i + t → Ev (fun k => impl_Pile_covered.l1 k acc ((pc l i).f7 + t) l (l.length : Int) (i : Int) (pc l i).f0 (pc l i).f1 (pc l i).f2 (pc l i).f3 (pc l i).f4 (pc l i).f5 (pc l i).f6 (pc l i).f7 (pc l i).f8 (pc l i).f9) (res (acc ++ (List.range d).map fun s => (pc l i).f7 + ((t + s : Nat) : Int))) := by
  have tx := hx.told
  have hw : wrap64 ((pc l i).f7 + ((pc l i).f9.size : Int)) = (pc l i).f7 + ((pc l i).f9.size : Int) := w64 (by omega) (by omega)
  induction d with
  | zero =>
    intro t acc hd hl
    refine Ev.step (fun k => by rw [impl_Pile_covered.l1]) ?_
    simp only [impl_Bundle_end.f, Option.bind_some, hw]
    refine Ev.ite_neg (by omega) ?_
    simpa using hres acc (by omega)
  | succ d ih =>
    intro t acc hd hl
    have hw1 : wrap64 ((pc l i).f7 + (t : Int) + 1) = (pc l i).f7 + ((t + 1 : Nat) : Int) := by rw [w64 (by omega) (by omega)]; omega
    have := ih (t + 1) (acc ++ [(pc l i).f7 + (t : Int)]) (by omega) (by simp; omega)
    refine Ev.step (fun k => by rw [impl_Pile_covered.l1]) ?_
    simp only [impl_Bundle_end.f, Option.bind_some, hw]
    refine Ev.ite_pos (by omega) (Ev.ite_pos (by omega) ?_)
    rw [hw1]
    have e : (acc ++ [(pc l i).f7 + (t : Int)]) ++ (List.range d).map (fun s => (pc l i).f7 + ((t + 1 + s : Nat) : Int)) = acc ++ (List.range (d + 1)).map fun s => (pc l i).f7 + ((t + s : Nat) : Int) := by
      rw [List.range_succ_eq_map, List.map_cons, List.map_map, List.append_assoc]
      congr 1
      simp only [List.singleton_append, Nat.add_zero]
      congr 1
      refine List.map_congr_left fun s _ => ?_
      simp only [Function.comp]
      omega
    rw [← e]
    exact this
theorem cov_go (l : List PcT) (hl : l.length ≤ 60) (hp : ∀ j : Nat, j < l.length → PieceP (pc l j)) (d : Nat) : ∀ i : Nat, l.length - i = d → i ≤ l.length → ∃ res : List Int → List Int, (∀ acc : List Int, acc.length ≤ 60 * i → Ev (fun k => impl_Pile_covered.l0 k acc l (l.length : Int) (i : Int)) (res acc)) ∧
    (∀ acc a, a ∈ res acc ↔ a ∈ acc ∨ ∃ j : Nat, i ≤ j ∧ j < l.length ∧ InP (pc l j) a) ∧ ∀ acc, (res acc).length ≤ acc.length + 60 * (l.length - i) := by
  induction d with
  | zero =>
    intro i hd hi
    exact ⟨fun acc => acc, fun acc _ => Ev.step (fun k => by rw [impl_Pile_covered.l0]) (Ev.ite_neg (by omega) (Ev.now _)), fun acc a => ⟨.inl, fun h => h.elim id fun ⟨j, h1, h2, _⟩ => by omega⟩, fun acc => Nat.le_add_right _ _⟩
  | succ d ih =>
    intro i hd hi
    have hlt : i < l.length := by omega
    have hx := hp i hlt
    have tx := hx.told
    have hw : wrap64 ((i : Int) + 1) = ((i + 1 : Nat) : Int) := by rw [w64 (by omega) (by omega)]; omega
    obtain ⟨res, h1, h2, h3⟩ := ih (i + 1) (by omega) (by omega)
    refine ⟨fun acc => res (acc ++ (List.range (pc l i).f9.size).map fun s => (pc l i).f7 + ((0 + s : Nat) : Int)), fun acc ha => ?_, fun acc a => ?_, fun acc => ?_⟩
    · refine Ev.step (fun k => by rw [impl_Pile_covered.l0]) (Ev.ite_pos (by omega) (Ev.ite_pos (by omega) (Ev.ite_pos (by omega) ?_)))
      have := covIn_go l i hx res (fun acc' h' => by rw [hw]; exact h1 acc' h') (by omega) (pc l i).f9.size 0 acc (by omega) (by omega)
      simpa using this
    · rw [h2, List.mem_append, List.mem_map]
      constructor
      · rintro ((h | ⟨s, hs, rfl⟩) | ⟨j, h4, h5, h6⟩)
        · exact .inl h
        · have := List.mem_range.1 hs
          exact .inr ⟨i, Nat.le_refl _, hlt, by unfold InP; omega⟩
        · exact .inr ⟨j, by omega, h5, h6⟩
      · rintro (h | ⟨j, h4, h5, h6⟩)
        · exact .inl (.inl h)
        · by_cases e : j = i
          · subst e
            unfold InP at h6
            exact .inl (.inr ⟨(a - (pc l j).f7).toNat, List.mem_range.2 (by omega), by omega⟩)
          · exact .inr ⟨j, by omega, h5, h6⟩
    · refine Nat.le_trans (h3 _) ?_
      simp
      omega
theorem compact_le (zs : List Int) : (Go.Lib.compact zs).length ≤ zs.length := by
  unfold Go.Lib.compact Go.Lib.compactUpTo
  rw [List.length_map]
  exact Nat.le_trans (List.length_filter_le _ _) (by simp)
theorem implCovered_told (l : List PcT) (hl : l.length ≤ 60) (hp : ∀ j : Nat, j < l.length → PieceP (pc l j)) : ∃ xs : List Int, Ev (fun k => impl_Pile_covered.f k l) xs ∧ xs.Pairwise (· < ·) ∧ ∀ a, a ∈ xs ↔ ∃ j : Nat, j < l.length ∧ InP (pc l j) a := by
  obtain ⟨res, h1, h2, h3⟩ := cov_go l hl hp _ 0 rfl (by omega)
  obtain ⟨c1, c2⟩ := compact_sorted (res [])
  refine ⟨_, ?_, c1, fun a => (c2 a).trans ((h2 [] a).trans (by simp))⟩
  simp only [impl_Pile_covered.f]
  refine Ev.bind (h1 [] (by simp)) (Ev.ite_pos (by have := h3 []; simp at this; omega) (Ev.ite_pos (compact_le _) (Ev.now _)))
def rows (n : Nat) (out : List Int) (there : List Bool) : Prop := out.length = n ∧ there.length = n
theorem rdOf_same (l : List Bool) (i : Nat) (h : i < l.length) (v : Bool) : rdOf false (l.set i v) (i : Int) = v := by
  simp [rdOf, List.getD_eq_getElem?_getD, h]
theorem rdOf_ne (l : List Bool) (i j : Nat) (h : i ≠ j) (v : Bool) : rdOf false (l.set i v) (j : Int) = rdOf false l (j : Int) := by
  simp [rdOf, List.getD_eq_getElem?_getD, h]
theorem bw_one (t : Nat) (h : t ≤ 1000) : wrap64 ((t : Int) + 1) = ((t + 1 : Nat) : Int) := by rw [w64 (by omega) (by omega)]; omega
theorem bw_two (x : Int) (p t : Nat) (hp : x = p) (h : p + t ≤ 1000) : wrap64 (x + (t : Int)) = ((p + t : Nat) : Int) := by subst hp; rw [w64 (by omega) (by omega)]; omega
theorem bytesIn_go (l : List PcT) (i n : Nat) (hx : PieceP (pc l i)) (h8 : (pc l i).f8 = n) (hi : i < 60) (d : Nat) : ∀ (t : Nat) (out : List Int) (there : List Bool), t + d = (pc l i).f9.size → rows n out there →
    ∃ (out' : List Int) (there' : List Bool), rows n out' there' ∧ (∀ r, Ev (fun k => spec_l4Bytes.l0 k out' there' l (l.length : Int) ((i + 1 : Nat) : Int)) r → Ev (fun k => spec_l4Bytes.l1 k out there (t : Int) l (l.length : Int) (i : Int) (pc l i).f0 (pc l i).f1 (pc l i).f2 (pc l i).f3 (pc l i).f4 (pc l i).f5 (pc l i).f6 (pc l i).f7 (pc l i).f8 (pc l i).f9) r) ∧
      (∀ s : Nat, t ≤ s → s < (pc l i).f9.size → rd out' ((pc l i).f7 + s) = bt (pc l i).f9 (s : Int) ∧ rdOf false there' ((pc l i).f7 + s) = true) ∧ ∀ a : Nat, (¬ ∃ s : Nat, t ≤ s ∧ s < (pc l i).f9.size ∧ (a : Int) = (pc l i).f7 + s) → rd out' (a : Int) = rd out (a : Int) ∧ rdOf false there' (a : Int) = rdOf false there (a : Int) := by
  have tx := hx.told
  induction d with
  | zero =>
    intro t out there hd hl
    have hw : wrap64 ((i : Int) + 1) = ((i + 1 : Nat) : Int) := by rw [w64 (by omega) (by omega)]; omega
    exact ⟨out, there, hl, fun r h => Ev.step (fun k => by rw [spec_l4Bytes.l1]) (Ev.ite_neg (by omega) (by rw [hw]; exact h)), fun s h1 h2 => by omega, fun a _ => ⟨rfl, rfl⟩⟩
  | succ d ih =>
    intro t out there hd hl
    obtain ⟨p, hp⟩ := Int.eq_ofNat_of_zero_le tx.1
    obtain ⟨l1, l2⟩ := hl
    have hb : p + t < n := by omega
    have ht : t ≤ 1000 := by omega
    have hpt : p + t ≤ 1000 := by omega
    have c1 : (t : Int) < ((pc l i).f9.size : Int) := by omega
    have c2 : (0 : Int) ≤ (t : Int) := Int.natCast_nonneg _
    have c3 : (0 : Int) ≤ ((p + t : Nat) : Int) := Int.natCast_nonneg _
    have c4 : ((p + t : Nat) : Int) < (out.length : Int) := by rw [l1]; exact Int.ofNat_lt.2 hb
    have c5 : ((p + t : Nat) : Int) < (there.length : Int) := by rw [l2]; exact Int.ofNat_lt.2 hb
    obtain ⟨out', there', h1, h2, h3, h4⟩ := ih (t + 1) (out.set (p + t) (bt (pc l i).f9 (t : Int))) (there.set (p + t) true) (by omega) ⟨by simpa using l1, by simpa using l2⟩
    refine ⟨out', there', h1, fun r h => ?_, fun s h5 h6 => ?_, fun a ha => ?_⟩
    · refine Ev.step (fun k => by rw [spec_l4Bytes.l1]) ?_
      rw [bw_two _ p t hp hpt, bw_one t ht, Int.toNat_natCast]
      exact Ev.ite_pos c1 (Ev.ite_pos c2 (Ev.ite_pos c3 (Ev.ite_pos c4 (Ev.ite_pos c5 (h2 r h)))))
    · by_cases e : s = t
      · subst e
        have := h4 (p + s) (by rintro ⟨s', h7, h8, h9⟩; omega)
        rw [show (pc l i).f7 + (s : Int) = ((p + s : Nat) : Int) by omega, this.1, this.2]
        exact ⟨rd_set_same _ _ (by rw [l1]; exact hb) _, rdOf_same _ _ (by rw [l2]; exact hb) _⟩
      · exact h3 s (by omega) h6
    · have hne : p + t ≠ a := fun e => ha ⟨t, Nat.le_refl _, by omega, by omega⟩
      have := h4 a (fun ⟨s, h5, h6, h7⟩ => ha ⟨s, by omega, h6, h7⟩)
      rw [this.1, this.2]
      exact ⟨rd_set_ne _ _ _ hne _, rdOf_ne _ _ _ hne _⟩
def wputP (xs : List Int) (o : Nat) (s : ByteArray) : List Int := xs.take o ++ bytesOf s ++ xs.drop (o + s.size)
theorem wputP_len (xs : List Int) (o : Nat) (s : ByteArray) (h : o + s.size ≤ xs.length) : (wputP xs o s).length = xs.length := by
  simp only [wputP, List.length_append, List.length_take, List.length_drop, bytesOf_length]
  omega
theorem rd_in (l : List Int) (i : Nat) (h : i < l.length) : rd l (i : Int) = l[i] := by
  simp [rd, List.getD_eq_getElem?_getD, List.getElem?_eq_getElem h]
theorem list_rd_ext {n : Nat} {xs ys : List Int} (h1 : xs.length = n) (h2 : ys.length = n) (h : ∀ a : Nat, a < n → rd xs (a : Int) = rd ys (a : Int)) : xs = ys := by
  apply List.ext_getElem (by rw [h1, h2])
  intro i h3 h4
  have := h i (by omega)
  rwa [rd_in xs i h3, rd_in ys i h4] at this
theorem wputP_in (xs : List Int) (o : Nat) (s : ByteArray) (h : o + s.size ≤ xs.length) (t : Nat) (ht : t < s.size) : rd (wputP xs o s) ((o + t : Nat) : Int) = bt s (t : Int) := by
  have hl : o + t < (wputP xs o s).length := by rw [wputP_len _ _ _ h]; omega
  have hb : t < (bytesOf s).length := by rw [bytesOf_length]; exact ht
  rw [rd_in _ _ hl, ← rd_bytesOf, rd_in _ _ hb]
  simp only [wputP]
  rw [List.getElem_append_left (by simp [bytesOf_length]; omega), List.getElem_append_right (by simp; omega)]
  congr 1
  simp
  omega
theorem wputP_out (xs : List Int) (o : Nat) (s : ByteArray) (h : o + s.size ≤ xs.length) (a : Nat) (ha : a < xs.length) (hn : a < o ∨ o + s.size ≤ a) : rd (wputP xs o s) (a : Int) = rd xs (a : Int) := by
  have hl : a < (wputP xs o s).length := by rw [wputP_len _ _ _ h]; exact ha
  rw [rd_in _ _ hl, rd_in _ _ ha]
  simp only [wputP]
  rcases hn with hn | hn
  · rw [List.getElem_append_left (by simp [bytesOf_length]; omega), List.getElem_append_left (by simp; omega)]
    simp
  · rw [List.getElem_append_right (by simp [bytesOf_length]; omega), List.getElem_drop]
    congr 1
    simp [bytesOf_length]
    omega
def wputs (l : List PcT) : Nat → Nat → List Int → List Int
  | 0, _, out => out
  | d + 1, i, out => wputs l d (i + 1) (wputP out (pc l i).f7.toNat (pc l i).f9)
def Laid (l : List PcT) (i n : Nat) (out : List Int) (there : List Bool) : Prop :=
  rows n out there ∧ (∀ j : Nat, j < i → ∀ s : Nat, s < (pc l j).f9.size → rd out ((pc l j).f7 + s) = bt (pc l j).f9 (s : Int)) ∧ ∀ a : Nat, rdOf false there (a : Int) = true ↔ ∃ j : Nat, j < i ∧ InP (pc l j) a
theorem bytes_go (l : List PcT) (n : Nat) (hl : l.length ≤ 60) (hp : PileFrom l 0) (h8 : (pc l 0).f8 = n) (d : Nat) : ∀ (i : Nat) (out : List Int) (there : List Bool), l.length - i = d → i ≤ l.length → Laid l i n out there →
    ∃ (out' : List Int) (there' : List Bool), Laid l l.length n out' there' ∧ out' = wputs l d i out ∧ Ev (fun k => spec_l4Bytes.l0 k out there l (l.length : Int) (i : Int)) (out', there') := by
  induction d with
  | zero =>
    intro i out there hd hi h
    obtain rfl : i = l.length := by omega
    exact ⟨out, there, h, rfl, Ev.step (fun k => by rw [spec_l4Bytes.l0]) (Ev.ite_neg (by omega) (Ev.now _))⟩
  | succ d ih =>
    intro i out there hd hi h
    have hlt : i < l.length := by omega
    obtain ⟨⟨hx, hs, _⟩, ha⟩ := hp i (Nat.zero_le _) hlt
    have tx := hx.told
    obtain ⟨g1, g2, g3⟩ := h
    obtain ⟨out', there', h1, h2, h3, h4⟩ := bytesIn_go l i n hx (by rw [← h8]; exact hs.2.2.2.2.2.2) (by omega) (pc l i).f9.size 0 out there (by omega) g1
    obtain ⟨p, hp'⟩ := Int.eq_ofNat_of_zero_le tx.1
    have hL : Laid l (i + 1) n out' there' := by
      refine ⟨h1, fun j hj s hs' => ?_, fun a => ?_⟩
      · by_cases e : j = i
        · subst e
          exact (h3 s (Nat.zero_le _) hs').1
        · have tj := (hp j (Nat.zero_le _) (by omega)).1.1.told
          obtain ⟨q, hq⟩ := Int.eq_ofNat_of_zero_le tj.1
          by_cases hin : ∃ s' : Nat, 0 ≤ s' ∧ s' < (pc l i).f9.size ∧ ((q + s : Nat) : Int) = (pc l i).f7 + s'
          · obtain ⟨s', _, h5, h6⟩ := hin
            rw [show (pc l j).f7 + (s : Int) = (pc l i).f7 + s' by omega, (h3 s' (Nat.zero_le _) h5).1]
            have := ha j (by omega) s' (Nat.zero_le _) h5 (by omega) (by omega)
            rw [this, show (pc l i).f7 + (s' : Int) - (pc l j).f7 = s by omega]
          · have := (h4 (q + s) hin).1
            rw [show (pc l j).f7 + (s : Int) = ((q + s : Nat) : Int) by omega, this, ← g2 j (by omega) s hs']
            rw [show (pc l j).f7 + (s : Int) = ((q + s : Nat) : Int) by omega]
      · by_cases hin : ∃ s' : Nat, 0 ≤ s' ∧ s' < (pc l i).f9.size ∧ (a : Int) = (pc l i).f7 + s'
        · obtain ⟨s', _, h5, h6⟩ := hin
          rw [h6, (h3 s' (Nat.zero_le _) h5).2]
          exact ⟨fun _ => ⟨i, by omega, by unfold InP; omega⟩, fun _ => rfl⟩
        · rw [(h4 a hin).2, g3]
          constructor
          · rintro ⟨j, hj, h5⟩; exact ⟨j, by omega, h5⟩
          · rintro ⟨j, hj, h5⟩
            by_cases e : j = i
            · subst e
              unfold InP at h5
              exact absurd ⟨a - p, Nat.zero_le _, by omega, by omega⟩ hin
            · exact ⟨j, by omega, h5⟩
    have hput : out' = wputP out (pc l i).f7.toNat (pc l i).f9 := by
      have hb : p + (pc l i).f9.size ≤ n := by
        have h8' : (pc l i).f8 = n := by rw [← h8]; exact hs.2.2.2.2.2.2
        omega
      have e7 : (pc l i).f7.toNat = p := by omega
      rw [e7]
      refine list_rd_ext h1.1 (by rw [wputP_len _ _ _ (by rw [g1.1]; exact hb)]; exact g1.1) fun a ha' => ?_
      by_cases hin : p ≤ a ∧ a < p + (pc l i).f9.size
      · obtain ⟨q, rfl⟩ := Nat.exists_eq_add_of_le hin.1
        rw [wputP_in _ _ _ (by rw [g1.1]; exact hb) q (by omega), ← (h3 q (Nat.zero_le _) (by omega)).1]
        rw [show (pc l i).f7 + (q : Int) = ((p + q : Nat) : Int) by omega]
      · rw [wputP_out _ _ _ (by rw [g1.1]; exact hb) a (by rw [g1.1]; exact ha') (by omega)]
        exact (h4 a (fun ⟨s, h5, h6, h7⟩ => hin ⟨by omega, by omega⟩)).1
    obtain ⟨out2, there2, k1, k0, k2⟩ := ih (i + 1) out' there' (by omega) (by omega) hL
    refine ⟨out2, there2, k1, by rw [k0, hput]; rfl, Ev.step (fun k => by rw [spec_l4Bytes.l0]) (Ev.ite_pos (by omega) (Ev.ite_pos (by omega) (Ev.ite_pos (by omega) ?_)))⟩
    exact h2 _ k2
theorem bytes_told (l : List PcT) (hl : l.length ≤ 60) (hp : PileFrom l 0) (h0 : 0 < l.length) : ∃ (n : Nat) (out : List Int) (there : List Bool), (pc l 0).f8 = n ∧ Laid l l.length n out there ∧ out = wputs l l.length 0 (List.replicate n 0) ∧ Ev (fun k => spec_l4Bytes.f k l) (out, there) := by
  have tx := (hp 0 (Nat.le_refl _) h0).1.1.told
  obtain ⟨n, hn⟩ := Int.eq_ofNat_of_zero_le (show 0 ≤ (pc l 0).f8 by omega)
  have hL : Laid l 0 n (List.replicate n 0) (List.replicate n false) := by
    refine ⟨⟨by simp, by simp⟩, fun j hj => by omega, fun a => ?_⟩
    constructor
    · intro h
      by_cases ha : a < n <;> simp [rdOf, List.getD_eq_getElem?_getD, List.getElem?_replicate, ha] at h
    · rintro ⟨j, hj, _⟩; omega
  obtain ⟨out, there, k1, k0, k2⟩ := bytes_go l n hl hp hn l.length 0 (List.replicate n 0) (List.replicate n false) (by omega) (by omega) hL
  refine ⟨n, out, there, hn, k1, k0, ?_⟩
  have e : (rd_T46 l 0).f8 = n := hn
  simp only [spec_l4Bytes.f, e, Int.toNat_natCast]
  exact Ev.ite_neg (by omega) (Ev.ite_pos (by omega) (Ev.ite_pos (by omega) (Ev.ite_pos (by omega) k2)))
theorem specCov_go (there : List Bool) (hl : there.length ≤ 60) (d : Nat) : ∀ (i : Nat) (acc : List Int), there.length - i = d → i ≤ there.length → acc.length ≤ i → acc.Pairwise (· < ·) → (∀ a ∈ acc, a < (i : Int)) → ∃ xs : List Int, Ev (fun k => spec_Covered.l0 k acc there (there.length : Int) (i : Int)) (xs, true) ∧ xs.Pairwise (· < ·) ∧ ∀ a, a ∈ xs ↔ a ∈ acc ∨ ∃ s : Nat, i ≤ s ∧ s < there.length ∧ rdOf false there (s : Int) = true ∧ a = s := by
  induction d with
  | zero =>
    intro i acc hd hi h1 h2 h3
    exact ⟨acc, Ev.step (fun k => by rw [spec_Covered.l0]) (Ev.ite_neg (by omega) (Ev.now _)), h2, fun a => ⟨.inl, fun h => h.elim id fun ⟨s, h4, h5, _⟩ => by omega⟩⟩
  | succ d ih =>
    intro i acc hd hi h1 h2 h3
    have hw : wrap64 ((i : Int) + 1) = ((i + 1 : Nat) : Int) := by rw [w64 (by omega) (by omega)]; omega
    by_cases hy : rdOf false there (i : Int) = true
    · obtain ⟨xs, e1, e2, e3⟩ := ih (i + 1) (acc ++ [(i : Int)]) (by omega) (by omega) (by simp; omega) (List.pairwise_append.2 ⟨h2, List.pairwise_singleton _ _, fun a ha b hb => by
        obtain rfl : b = (i : Int) := by simpa using hb
        exact h3 a ha⟩) (fun a ha => by
          rcases List.mem_append.1 ha with h | h
          · have := h3 a h; omega
          · obtain rfl : a = (i : Int) := by simpa using h
            omega)
      refine ⟨xs, Ev.step (fun k => by rw [spec_Covered.l0]) (Ev.ite_pos (by omega) (Ev.ite_pos (by omega) (Ev.ite_pos (by omega) (Ev.ite_pos hy (Ev.ite_pos (by omega) (by rw [hw]; exact e1)))))), e2, fun a => (e3 a).trans ?_⟩
      rw [List.mem_append, List.mem_singleton]
      constructor
      · rintro ((h | h) | ⟨s, h4, h5, h6, h7⟩)
        · exact .inl h
        · exact .inr ⟨i, Nat.le_refl _, by omega, hy, h⟩
        · exact .inr ⟨s, by omega, h5, h6, h7⟩
      · rintro (h | ⟨s, h4, h5, h6, h7⟩)
        · exact .inl (.inl h)
        · by_cases e : s = i
          · subst e; exact .inl (.inr h7)
          · exact .inr ⟨s, by omega, h5, h6, h7⟩
    · obtain ⟨xs, e1, e2, e3⟩ := ih (i + 1) acc (by omega) (by omega) (by omega) h2 (fun a ha => by have := h3 a ha; omega)
      refine ⟨xs, Ev.step (fun k => by rw [spec_Covered.l0]) (Ev.ite_pos (by omega) (Ev.ite_pos (by omega) (Ev.ite_pos (by omega) (Ev.ite_neg hy (by rw [hw]; exact e1))))), e2, fun a => (e3 a).trans ?_⟩
      constructor
      · rintro (h | ⟨s, h4, h5, h6, h7⟩)
        · exact .inl h
        · exact .inr ⟨s, by omega, h5, h6, h7⟩
      · rintro (h | ⟨s, h4, h5, h6, h7⟩)
        · exact .inl h
        · by_cases e : s = i
          · subst e; exact absurd h6 hy
          · exact .inr ⟨s, by omega, h5, h6, h7⟩
theorem specCovered_told (l : List PcT) (hl : l.length ≤ 60) (hp : PileFrom l 0) (he : Ev (fun k => spec_GoodPile.f k l) true) : ∃ xs : List Int, Ev (fun k => spec_Covered.f k l) (xs, true) ∧ xs.Pairwise (· < ·) ∧ ∀ a, a ∈ xs ↔ ∃ j : Nat, j < l.length ∧ InP (pc l j) a := by
  simp only [spec_Covered.f]
  by_cases h0 : 0 < l.length
  · obtain ⟨n, out, there, hn, ⟨⟨g1, g2⟩, _, g3⟩, _, e⟩ := bytes_told l hl hp h0
    have t0 := (hp 0 (Nat.le_refl _) h0).1.1.told
    obtain ⟨xs, e1, e2, e3⟩ := specCov_go there (by omega) _ 0 [] rfl (by omega) (by simp) List.Pairwise.nil (by simp)
    refine ⟨xs, Ev.bind he (Ev.ite_pos rfl (Ev.bind e e1)), e2, fun a => (e3 a).trans ?_⟩
    constructor
    · rintro (h | ⟨s, _, h5, h6, rfl⟩)
      · simp at h
      · exact (g3 s).1 h6
    · rintro ⟨j, hj, h⟩
      obtain ⟨⟨hx, hs, _⟩, _⟩ := hp j (Nat.zero_le _) hj
      have tj := hx.told
      have h8 : (pc l j).f8 = (pc l 0).f8 := hs.2.2.2.2.2.2
      have h' := h
      unfold InP at h'
      refine .inr ⟨a.toNat, Nat.zero_le _, by omega, (g3 a.toNat).2 ⟨j, hj, ?_⟩, by omega⟩
      rw [show ((a.toNat : Nat) : Int) = a by omega]
      exact h
  · have e0 : Ev (fun k => spec_l4Bytes.f k l) (([] : List Int), ([] : List Bool)) := by
      simp only [spec_l4Bytes.f]
      exact Ev.ite_pos (by omega) (Ev.now _)
    refine ⟨[], Ev.bind he (Ev.ite_pos rfl (Ev.bind e0 (Ev.step (fun k => by rw [spec_Covered.l0]) (Ev.ite_neg (by simp) (Ev.now _))))), List.Pairwise.nil, fun a => ⟨fun h => by simp at h, fun ⟨j, hj, _⟩ => by omega⟩⟩
theorem covered_both (l : List PcT) (hl : l.length ≤ 60) (hp : PileFrom l 0) (hs : Ev (fun k => spec_GoodPile.f k l) true) (hi : Ev (fun k => impl_GoodPile.f k l) true) : ∃ xs : List Int, Ev (fun k => spec_Covered.f k l) (xs, true) ∧ Ev (fun k => impl_Pile_covered.f k l) xs ∧ xs.Pairwise (· < ·) ∧ ∀ a, a ∈ xs ↔ ∃ j : Nat, j < l.length ∧ InP (pc l j) a := by
  obtain ⟨xs, e1, e2, e3⟩ := specCovered_told l hl hp hs
  obtain ⟨ys, f1, f2, f3⟩ := implCovered_told l hl (fun j hj => (hp j (Nat.zero_le _) hj).1.1)
  have : xs = ys := strict_uniq xs ys e2 f2 fun a => (e3 a).trans (f3 a).symm
  subst this
  exact ⟨xs, e1, f1, e2, e3⟩
theorem strict_len : ∀ (xs : List Int) (lo hi : Int), xs.Pairwise (· < ·) → (∀ a ∈ xs, lo ≤ a ∧ a < hi) → lo ≤ hi → (xs.length : Int) ≤ hi - lo
  | [], lo, hi, _, _, h => by simp; omega
  | x :: xs, lo, hi, h, hb, hle => by
    rw [List.pairwise_cons] at h
    have hx := hb x (by simp)
    have := strict_len xs (x + 1) hi h.2 (fun a ha => ⟨by have := h.1 a ha; omega, (hb a (by simp [ha])).2⟩) (by omega)
    simp only [List.length_cons]
    omega
def MissP (l : List PcT) (n : Int) : Prop := (l.length = 0 → n = 0) ∧ (0 < l.length → ∃ xs : List Int, n = (pc l 0).f8 - (xs.length : Int) ∧ (xs.length : Int) ≤ (pc l 0).f8 ∧ xs.Pairwise (· < ·) ∧ ∀ a, a ∈ xs ↔ ∃ j : Nat, j < l.length ∧ InP (pc l j) a)
theorem missing_both (l : List PcT) (hl : l.length ≤ 1048576) (h8 : ∀ j : Nat, j < l.length → -9223372036854775808 ≤ (pc l j).f8 ∧ (pc l j).f8 ≤ 9223372036854775807) :
    ∃ (n : Int) (b : Bool), Ev (fun k => spec_MissingIn.f k l) (n, b) ∧ Ev (fun k => impl_MissingIn.f k l) (n, b) ∧ (b = true ↔ PileFrom l 0 ∧ l.length ≤ 60) ∧ (b = true → MissP l n) := by
  obtain ⟨b, e, f, hb⟩ := pile_both l hl h8
  simp only [spec_MissingIn.f, impl_MissingIn.f]
  cases b with
  | false =>
    refine ⟨0, false, ?_, Ev.bind f (Ev.ite_neg (by decide) (Ev.now _)), hb, fun h => absurd h (by decide)⟩
    have : Ev (fun k => spec_Covered.f k l) (([] : List Int), false) := by
      simp only [spec_Covered.f]
      exact Ev.bind e (Ev.ite_neg (by decide) (Ev.now _))
    exact Ev.bind this (Ev.ite_neg (by decide) (Ev.now _))
  | true =>
    obtain ⟨hp, h60⟩ := hb.1 rfl
    obtain ⟨xs, x1, x2, x3, x4⟩ := covered_both l h60 hp e f
    by_cases h0 : 0 < l.length
    · have t0 := (hp 0 (Nat.le_refl _) h0).1.1.told
      have hlen := strict_len xs 0 (pc l 0).f8 x3 (fun c hc => by
          obtain ⟨j, hj, h⟩ := (x4 c).1 hc
          obtain ⟨⟨hx, hs, _⟩, _⟩ := hp j (Nat.zero_le _) hj
          have tj := hx.told
          have h8' : (pc l j).f8 = (pc l 0).f8 := hs.2.2.2.2.2.2
          unfold InP at h
          omega) (by omega)
      have hw : wrap64 ((rd_T46 l 0).f8 - (xs.length : Int)) = (pc l 0).f8 - (xs.length : Int) := w64 (x := (pc l 0).f8 - (xs.length : Int)) (by omega) (by omega)
      refine ⟨(pc l 0).f8 - (xs.length : Int), true, Ev.bind x1 (Ev.ite_pos rfl (Ev.ite_neg (by omega) (Ev.ite_pos (by omega) ?_))), Ev.bind f (Ev.ite_pos rfl (Ev.ite_neg (by omega) (Ev.ite_pos (by omega) (Ev.bind x2 ?_)))), hb, fun _ => ⟨fun h => by omega, fun _ => ⟨xs, rfl, by omega, x3, x4⟩⟩⟩
      · simp only [hw]; exact Ev.now _
      · simp only [hw]; exact Ev.now _
    · exact ⟨0, true, Ev.bind x1 (Ev.ite_pos rfl (Ev.ite_pos (by omega) (Ev.now _))), Ev.bind f (Ev.ite_pos rfl (Ev.ite_pos (by omega) (Ev.now _))), hb, fun _ => ⟨fun _ => rfl, fun h => absurd h h0⟩⟩
theorem szPile_told (l : List S42) (h : l.length ≤ maxLen) (h' : ∀ x ∈ l, ok42 x) : ∃ r, Ev (fun k => laws_szPile.f k l 1048576) r ∧ (0 ≤ r → l.length ≤ 1048576) := by
  obtain ⟨r, a, hr⟩ := szBundleS_val l h (bundle_sizes l h')
  simp only [laws_szPile.f]
  by_cases h0 : r < 0
  · exact ⟨-1, Ev.bind a (Ev.ite_pos h0 (Ev.now _)), fun h => by omega⟩
  · exact ⟨r, Ev.bind a (Ev.ite_neg h0 (Ev.now _)), fun h => (hr h).1⟩
theorem toPile_told (l : List S42) (hl : l.length ≤ 1048576) : Ev (fun k => laws_toPile.f k l) (l.map bundleOf) := by
  simp only [laws_toPile.f]
  exact Ev.bind (toBundleS_val l hl) (Ev.now _)
theorem eqPile_told (l : List S46) (hl : l.length ≤ 1048576) : Ev (fun k => laws_eqPile.f k l l) true := by
  simp only [laws_eqPile.f]
  exact Ev.bind (eqBundleS_self _ hl) (Ev.ite_pos rfl (Ev.now _))
theorem FnExactMissingIn : Go.Proofs.Ytlkbbolkadkedaa.GoalFnExactMissingIn.Goal := by
  intro l hok
  refine Ev.rounds ?_
  obtain ⟨r, a, hr⟩ := szPile_told l hok.1 hok.2
  simp only [laws_FnExactMissingIn.f]
  refine Ev.bind a (Ev.ite (fun _ => Ev.now _) fun h => ?_)
  have hl := hr (by omega)
  have hto := toPile_told l hl
  have hlm : (l.map bundleOf).length ≤ 1048576 := by simpa using hl
  obtain ⟨n, b, e, f, _⟩ := missing_both (l.map bundleOf) hlm (pc_map l hok.2)
  refine Ev.bind hto (Ev.bind e (Ev.bind hto (Ev.bind f (Ev.ite_pos rfl ?_))))
  refine Ev.step (fun k => by rw [laws_FnExactMissingIn.j0]) ?_
  exact Ev.ite_neg (by simp) (Ev.bind hto (Ev.bind (eqPile_told _ hlm) (Ev.ite_pos rfl (Ev.now _))))
end Go.Proofs.Ytlkbbolkadkedaa.Pure
