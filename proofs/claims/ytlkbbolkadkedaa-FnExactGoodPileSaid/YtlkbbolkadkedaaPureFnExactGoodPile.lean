import Derived.Test.YtlkbbolkadkedaaQFnExactGoodPilex10
import Derived.Test.YtlkbbolkadkedaaPlain
import Derived.Test.YtlkbbolkadkedaaGoalFnExactGoodPile
set_option linter.unusedVariables false
set_option linter.unusedSimpArgs false
namespace Go.Proofs.Ytlkbbolkadkedaa.Pure
open Go.RowKit Go.Proofs.Ytlkbbolkadkedaa.QFnExactGoodPile Go.Proofs.YtlkbbolkadkedaaW.PrintWords Go.Proofs.YtlkbbolkadkedaaW.PrintLast Go.Proofs.Ytlkbbolkadkedaa.Plain Go.Proofs.Ytlkbbolkadkedaa.GoalFnExactGoodPile
def GoodP (f t mk no life hops off tot : Int) (n : Nat) : Prop :=
  (0 ≤ f ∧ f ≤ 40) ∧ (0 ≤ t ∧ t ≤ 40) ∧ (0 ≤ mk ∧ mk ≤ 1000000) ∧ (0 ≤ no ∧ no ≤ 1000) ∧ (1 ≤ life ∧ life ≤ 1000000) ∧ (0 ≤ hops ∧ hops ≤ 30) ∧ n ≤ 60 ∧
    ((tot = 0 ∧ off = 0) ∨ (1 ≤ tot ∧ tot ≤ 60 ∧ 0 ≤ off ∧ off + n ≤ tot ∧ 0 < n))
instance (f t mk no life hops off tot : Int) (n : Nat) : Decidable (GoodP f t mk no life hops off tot n) := by unfold GoodP; infer_instance
theorem specIn (a b c : Int) : spec_l1In.f a b c = some (decide (b ≤ a ∧ a ≤ c)) := by
  unfold spec_l1In.f
  by_cases h : b ≤ a <;> simp [h]
theorem specGoodH (a0 a1 : Int) (a2 : Bool) (a3 a4 a5 a6 a7 a8 : Int) (a9 : ByteArray) :
    Ev (fun k => spec_GoodBundle.f k a0 a1 a2 a3 a4 a5 a6 a7 a8 a9) (decide (GoodP a0 a1 a3 a4 a5 a6 a7 a8 a9.size)) := by
  have no : ¬ GoodP a0 a1 a3 a4 a5 a6 a7 a8 a9.size → Ev (fun k => spec_GoodBundle.j0 k true a0 a1 a2 a3 a4 a5 a6 a7 a8 a9) (decide (GoodP a0 a1 a3 a4 a5 a6 a7 a8 a9.size)) := fun h => by
    rw [decide_eq_false h]; exact Ev.step (fun k => by rw [spec_GoodBundle.j0]) (Ev.ite_pos rfl (Ev.now _))
  simp only [spec_GoodBundle.f, specIn, Option.bind_some, decide_eq_true_eq]
  refine Ev.ite (fun h0 => ?_) fun h => no (by unfold GoodP; omega)
  refine Ev.ite (fun h1 => ?_) fun h => no (by unfold GoodP; omega)
  refine Ev.ite (fun h3 => ?_) fun h => no (by unfold GoodP; omega)
  refine Ev.ite (fun h4 => ?_) fun h => no (by unfold GoodP; omega)
  refine Ev.ite (fun h5 => ?_) fun h => no (by unfold GoodP; omega)
  refine Ev.ite (fun h6 => ?_) fun h => no (by unfold GoodP; omega)
  refine Ev.ite (fun hn => no (by unfold GoodP; omega)) fun hn => ?_
  refine Ev.ite (fun h8 => ?_) fun h => no (by unfold GoodP; omega)
  by_cases h7 : 0 ≤ a7 ∧ a7 ≤ a8
  case neg =>
    rw [decide_eq_false h7]
    exact no (by unfold GoodP; omega)
  rw [decide_eq_true h7]
  refine Ev.step (fun k => by rw [spec_GoodBundle.j0]) (Ev.ite_neg (by decide) ?_)
  refine Ev.ite (fun hz => Ev.now' (decide_eq_true (by unfold GoodP; omega)).symm) fun hz => ?_
  refine Ev.ite (fun hp => Ev.now' ?_) fun hp => Ev.now' (decide_eq_false (by unfold GoodP; omega)).symm
  rw [w64 (by omega) (by omega)]
  exact decide_eq_decide.mpr (by unfold GoodP; omega)
theorem implWithin (a b c : Int) : impl_within.f a b c = some (decide (b ≤ a ∧ a ≤ c)) := by
  unfold impl_within.f
  by_cases h : b ≤ a <;> simp [h]
theorem implGood_no (a0 a1 : Int) (a2 : Bool) (a3 a4 a5 a6 a7 a8 : Int) (a9 : ByteArray) : Ev (fun k => impl_GoodBundle.j0 k true a0 a1 a2 a3 a4 a5 a6 a7 a8 a9) false := by
  refine Ev.step (fun k => by rw [impl_GoodBundle.j0]) ?_
  exact Ev.ite_pos rfl (Ev.now _)
theorem isEmpty_size (s : ByteArray) : s.toList.isEmpty = decide (s.size = 0) := by
  rw [ByteArray.toList_eq, ← size_data]
  cases s.data.toList <;> simp
theorem implGood_end (a0 a1 : Int) (a2 : Bool) (a3 a4 a5 a6 a7 a8 : Int) (a9 : ByteArray) (h8 : -9223372036854775808 ≤ a8 ∧ a8 ≤ 9223372036854775807) (h : a9.size ≤ 60) :
    Ev (fun k => impl_GoodBundle.j0 k (decide ((a9.size : Int) > 60)) a0 a1 a2 a3 a4 a5 a6 a7 a8 a9) (decide ((a8 = 0 ∧ a7 = 0) ∨ (1 ≤ a8 ∧ a8 ≤ 60 ∧ 0 ≤ a7 ∧ a7 + a9.size ≤ a8 ∧ 0 < a9.size))) := by
  rw [decide_eq_false (show ¬ (a9.size : Int) > 60 by omega)]
  refine Ev.step (fun k => by rw [impl_GoodBundle.j0]) ?_
  refine Ev.ite_neg (by simp) ?_
  by_cases hz : a8 = 0
  · refine Ev.ite_pos hz (Ev.now' ?_)
    rw [show (a7 == 0) = decide (a7 = 0) from rfl]
    exact decide_eq_decide.mpr (by omega)
  · refine Ev.ite_neg hz ?_
    rw [implWithin, implWithin, isEmpty_size]
    simp only [Option.bind_some, decide_eq_true_eq]
    by_cases h1 : 1 ≤ a8 ∧ a8 ≤ 60
    · refine Ev.ite_pos h1 ?_
      rw [w64 (by omega) (by omega)]
      by_cases h2 : 0 ≤ a7 ∧ a7 ≤ a8 - (a9.size : Int)
      · refine Ev.ite_pos h2 (Ev.now' ?_)
        by_cases h3 : a9.size = 0
        · rw [decide_eq_true h3, decide_eq_false (show ¬ _ by omega)]; rfl
        · rw [decide_eq_false h3, decide_eq_true (show _ by omega)]; rfl
      · refine Ev.ite_neg h2 (Ev.now' (decide_eq_false (by omega)).symm)
    · refine Ev.ite_neg h1 (Ev.now' (decide_eq_false (by omega)).symm)
theorem implGood (a0 a1 : Int) (a2 : Bool) (a3 a4 a5 a6 a7 a8 : Int) (a9 : ByteArray) (h8 : -9223372036854775808 ≤ a8 ∧ a8 ≤ 9223372036854775807) :
    Ev (fun k => impl_GoodBundle.f k a0 a1 a2 a3 a4 a5 a6 a7 a8 a9) (decide (GoodP a0 a1 a3 a4 a5 a6 a7 a8 a9.size)) := by
  have no : ¬ GoodP a0 a1 a3 a4 a5 a6 a7 a8 a9.size → Ev (fun k => impl_GoodBundle.j0 k true a0 a1 a2 a3 a4 a5 a6 a7 a8 a9) (decide (GoodP a0 a1 a3 a4 a5 a6 a7 a8 a9.size)) := fun h => by
    rw [decide_eq_false h]; exact implGood_no ..
  simp only [impl_GoodBundle.f, implWithin, Option.bind_some, decide_eq_true_eq]
  refine Ev.ite (fun h0 => ?_) fun h => no (by unfold GoodP; omega)
  refine Ev.ite (fun h1 => ?_) fun h => no (by unfold GoodP; omega)
  refine Ev.ite (fun h3 => ?_) fun h => no (by unfold GoodP; omega)
  refine Ev.ite (fun h4 => ?_) fun h => no (by unfold GoodP; omega)
  refine Ev.ite (fun h5 => ?_) fun h => no (by unfold GoodP; omega)
  refine Ev.ite (fun h6 => ?_) fun h => no (by unfold GoodP; omega)
  by_cases hn : a9.size ≤ 60
  · have e : decide (GoodP a0 a1 a3 a4 a5 a6 a7 a8 a9.size) = decide ((a8 = 0 ∧ a7 = 0) ∨ (1 ≤ a8 ∧ a8 ≤ 60 ∧ 0 ≤ a7 ∧ a7 + a9.size ≤ a8 ∧ 0 < a9.size)) :=
      decide_eq_decide.mpr (by unfold GoodP; omega)
    rw [e]
    exact implGood_end a0 a1 a2 a3 a4 a5 a6 a7 a8 a9 h8 hn
  · rw [decide_eq_true (show (a9.size : Int) > 60 by omega)]
    exact no (by unfold GoodP; omega)
abbrev PcT := S46
abbrev pc (l : List PcT) (i : Nat) : PcT := rd_T46 l (i : Int)
def PieceP (x : PcT) : Prop := GoodP x.f0 x.f1 x.f3 x.f4 x.f5 x.f6 x.f7 x.f8 x.f9.size ∧ x.f8 ≠ 0
def SameP (x y : PcT) : Prop := x.f0 = y.f0 ∧ x.f1 = y.f1 ∧ x.f2 = y.f2 ∧ x.f3 = y.f3 ∧ x.f4 = y.f4 ∧ x.f5 = y.f5 ∧ x.f8 = y.f8
instance (x y : PcT) : Decidable (SameP x y) := by unfold SameP; infer_instance
def BeforeP (x y : PcT) : Prop := x.f7 < y.f7 ∨ (x.f7 = y.f7 ∧ x.f9.size < y.f9.size)
instance (x y : PcT) : Decidable (BeforeP x y) := by unfold BeforeP; infer_instance
def AgreeFrom (x y : PcT) (s : Nat) : Prop := ∀ t : Nat, s ≤ t → t < x.f9.size → 0 ≤ x.f7 + t - y.f7 → x.f7 + t - y.f7 < (y.f9.size : Int) → bt x.f9 (t : Int) = bt y.f9 (x.f7 + t - y.f7)
def HeadP (l : List PcT) (i : Nat) : Prop := PieceP (pc l i) ∧ SameP (pc l i) (pc l 0) ∧ (0 < i → BeforeP (pc l (i - 1)) (pc l i))
def RightP (l : List PcT) (i : Nat) : Prop := HeadP l i ∧ ∀ j : Nat, j < i → AgreeFrom (pc l i) (pc l j) 0
def PileFrom (l : List PcT) (i : Nat) : Prop := ∀ j : Nat, i ≤ j → j < l.length → RightP l j
theorem PileFrom.step {l : List PcT} {i : Nat} (h : i < l.length) : PileFrom l i ↔ RightP l i ∧ PileFrom l (i + 1) := by
  constructor
  · exact fun H => ⟨H i (Nat.le_refl _) h, fun j h1 h2 => H j (by omega) h2⟩
  · rintro ⟨a, b⟩ j h1 h2
    by_cases e : j = i
    · subst e; exact a
    · exact b j (by omega) h2
theorem PieceP.told {x : PcT} (h : PieceP x) : 0 ≤ x.f7 ∧ x.f7 ≤ 60 ∧ x.f9.size ≤ 60 ∧ 0 < x.f9.size ∧ x.f7 + x.f9.size ≤ x.f8 ∧ x.f8 ≤ 60 ∧ 0 < x.f8 := by
  obtain ⟨h, h0⟩ := h
  unfold GoodP at h
  omega
theorem same_val (x y : PcT) : spec_l4Same.f x.f0 x.f1 x.f2 x.f3 x.f4 x.f5 x.f6 x.f7 x.f8 x.f9 y.f0 y.f1 y.f2 y.f3 y.f4 y.f5 y.f6 y.f7 y.f8 y.f9 = some (decide (SameP x y)) := by
  unfold spec_l4Same.f SameP
  by_cases h0 : x.f0 = y.f0 <;> by_cases h1 : x.f1 = y.f1 <;> by_cases h2 : x.f2 = y.f2 <;> by_cases h3 : x.f3 = y.f3 <;> by_cases h4 : x.f4 = y.f4 <;> by_cases h5 : x.f5 = y.f5 <;> by_cases h8 : x.f8 = y.f8 <;> simp [h0, h1, h2, h3, h4, h5, h8]
theorem before_val (x y : PcT) : spec_l4Before.f x.f0 x.f1 x.f2 x.f3 x.f4 x.f5 x.f6 x.f7 x.f8 x.f9 y.f0 y.f1 y.f2 y.f3 y.f4 y.f5 y.f6 y.f7 y.f8 y.f9 = some (decide (BeforeP x y)) := by
  unfold spec_l4Before.f
  by_cases h0 : x.f7 < y.f7
  · rw [if_pos h0, decide_eq_true (show BeforeP x y from Or.inl h0)]
  · rw [if_neg h0]
    by_cases h1 : x.f7 = y.f7
    · rw [if_pos h1]
      exact congrArg some (decide_eq_decide.mpr (by unfold BeforeP; omega))
    · rw [if_neg h1, decide_eq_false (show ¬ BeforeP x y by unfold BeforeP; omega)]
theorem agree_go (x y : PcT) (hx : PieceP x) (hy : PieceP y) (d : Nat) : ∀ t : Nat, x.f9.size - t = d → ∃ b : Bool, Ev (fun k => spec_l4Agrees.l0 k (t : Int) x.f0 x.f1 x.f2 x.f3 x.f4 x.f5 x.f6 x.f7 x.f8 x.f9 y.f0 y.f1 y.f2 y.f3 y.f4 y.f5 y.f6 y.f7 y.f8 y.f9) b ∧ (b = true ↔ AgreeFrom x y t) := by
  have tx := hx.told
  have ty := hy.told
  induction d with
  | zero =>
    intro t hd
    refine ⟨true, Ev.step (fun k => by rw [spec_l4Agrees.l0]) (Ev.ite_neg (by omega) (Ev.now _)), ⟨fun _ s h1 h2 => by omega, fun _ => rfl⟩⟩
  | succ d ih =>
    intro t hd
    obtain ⟨b, e, hb⟩ := ih (t + 1) (by omega)
    have hw : wrap64 ((t : Int) + 1) = ((t + 1 : Nat) : Int) := by rw [w64 (by omega) (by omega)]; omega
    have hk : wrap64 (wrap64 (x.f7 + (t : Int)) - y.f7) = x.f7 + t - y.f7 := by rw [w64 (x := x.f7 + (t : Int)) (by omega) (by omega), w64 (by omega) (by omega)]
    have next : Ev (fun k => spec_l4Agrees.j1 k (t : Int) false x.f0 x.f1 x.f2 x.f3 x.f4 x.f5 x.f6 x.f7 x.f8 x.f9 y.f0 y.f1 y.f2 y.f3 y.f4 y.f5 y.f6 y.f7 y.f8 y.f9) b := by
      refine Ev.step (fun k => by rw [spec_l4Agrees.j1]) (Ev.ite_neg (by decide) ?_)
      rw [hw]
      exact e
    by_cases hin : 0 ≤ x.f7 + t - y.f7 ∧ x.f7 + t - y.f7 < (y.f9.size : Int)
    · by_cases hbt : bt x.f9 (t : Int) = bt y.f9 (x.f7 + t - y.f7)
      · refine ⟨b, ?_, hb.trans ⟨fun H s h1 h2 h3 h4 => ?_, fun H s h1 h2 => H s (by omega) h2⟩⟩
        · refine Ev.step (fun k => by rw [spec_l4Agrees.l0]) ?_
          rw [hk]
          refine Ev.ite_pos (by omega) (Ev.ite_pos hin.1 (Ev.ite_pos hin.2 (Ev.ite_pos (by omega) (Ev.ite_pos hin.1 ?_))))
          rw [show (bt x.f9 (t : Int) != bt y.f9 (x.f7 + t - y.f7)) = false by simp [hbt]]
          exact next
        · by_cases es : s = t
          · subst es; exact hbt
          · exact H s (by omega) h2 h3 h4
      · refine ⟨false, ?_, ⟨fun h => absurd h (by decide), fun H => absurd (H t (Nat.le_refl _) (by omega) hin.1 hin.2) hbt⟩⟩
        refine Ev.step (fun k => by rw [spec_l4Agrees.l0]) ?_
        rw [hk]
        refine Ev.ite_pos (by omega) (Ev.ite_pos hin.1 (Ev.ite_pos hin.2 (Ev.ite_pos (by omega) (Ev.ite_pos hin.1 ?_))))
        rw [show (bt x.f9 (t : Int) != bt y.f9 (x.f7 + t - y.f7)) = true by simpa using hbt]
        exact Ev.step (fun k => by rw [spec_l4Agrees.j1]) (Ev.ite_pos rfl (Ev.now _))
    · refine ⟨b, ?_, hb.trans ⟨fun H s h1 h2 h3 h4 => ?_, fun H s h1 h2 => H s (by omega) h2⟩⟩
      · refine Ev.step (fun k => by rw [spec_l4Agrees.l0]) ?_
        rw [hk]
        refine Ev.ite_pos (by omega) (Ev.ite (fun h0 => Ev.ite_neg (fun h1 => hin ⟨h0, h1⟩) next) (fun _ => next))
      · by_cases es : s = t
        · subst es; exact absurd ⟨h3, h4⟩ hin
        · exact H s (by omega) h2 h3 h4
theorem pc_take (l : List PcT) (i j : Nat) (h : j < i) (hi : i ≤ l.length) : rd_T46 (l.take i) (j : Int) = pc l j := by
  simp [pc, rd_T46, List.getD_eq_getElem?_getD, h]
theorem specInner_go (l : List PcT) (hl : l.length ≤ 1048576) (i : Nat) (hi : i < l.length) (hp : ∀ j : Nat, j ≤ i → PieceP (pc l j)) (R : Prop) (b' : Bool) (e' : Ev (fun k => spec_GoodPile.l0 k l (l.length : Int) ((i + 1 : Nat) : Int) l) b') (hb' : b' = true ↔ R) (d : Nat) :
    ∀ j : Nat, i - j = d → j ≤ i → ∃ b : Bool, Ev (fun k => spec_GoodPile.l1 k l (l.length : Int) (i : Int) (l.take i) (i : Int) (j : Int) l (pc l i).f0 (pc l i).f1 (pc l i).f2 (pc l i).f3 (pc l i).f4 (pc l i).f5 (pc l i).f6 (pc l i).f7 (pc l i).f8 (pc l i).f9) b ∧ (b = true ↔ (∀ j' : Nat, j ≤ j' → j' < i → AgreeFrom (pc l i) (pc l j') 0) ∧ R) := by
  induction d with
  | zero =>
    intro j hd hj
    have hw : wrap64 ((i : Int) + 1) = ((i + 1 : Nat) : Int) := by rw [w64 (by omega) (by omega)]; omega
    refine ⟨b', Ev.step (fun k => by rw [spec_GoodPile.l1]) (Ev.ite_neg (by omega) (by rw [hw]; exact e')), hb'.trans ⟨fun h => ⟨fun j' h1 h2 => by omega, h⟩, fun h => h.2⟩⟩
  | succ d ih =>
    intro j hd hj
    have hw : wrap64 ((j : Int) + 1) = ((j + 1 : Nat) : Int) := by rw [w64 (by omega) (by omega)]; omega
    obtain ⟨b, e, hb⟩ := ih (j + 1) (by omega) (by omega)
    obtain ⟨c, ec, hc⟩ := agree_go (pc l i) (pc l j) (hp i (Nat.le_refl _)) (hp j hj) _ 0 rfl
    have hlen : (l.take i).length = i := by simp; omega
    have start : ∀ r, Ev (fun k => if c = true then spec_GoodPile.l1 k l (l.length : Int) (i : Int) (l.take i) (i : Int) (wrap64 ((j : Int) + 1)) l (pc l i).f0 (pc l i).f1 (pc l i).f2 (pc l i).f3 (pc l i).f4 (pc l i).f5 (pc l i).f6 (pc l i).f7 (pc l i).f8 (pc l i).f9 else some false) r →
        Ev (fun k => spec_GoodPile.l1 k l (l.length : Int) (i : Int) (l.take i) (i : Int) (j : Int) l (pc l i).f0 (pc l i).f1 (pc l i).f2 (pc l i).f3 (pc l i).f4 (pc l i).f5 (pc l i).f6 (pc l i).f7 (pc l i).f8 (pc l i).f9) r := by
      intro r h
      refine Ev.step (fun k => by rw [spec_GoodPile.l1]) (Ev.ite_pos (by omega) (Ev.ite_pos (by omega) (Ev.ite_pos (by rw [hlen]; omega) ?_)))
      rw [pc_take l i j (by omega) (by omega)]
      exact Ev.bind ec h
    cases c with
    | true =>
      refine ⟨b, start b (Ev.ite_pos rfl (by rw [hw]; exact e)), hb.trans ⟨fun h => ⟨fun j' h1 h2 => ?_, h.2⟩, fun h => ⟨fun j' h1 h2 => h.1 j' (by omega) h2, h.2⟩⟩⟩
      by_cases ej : j' = j
      · subst ej; exact hc.1 rfl
      · exact h.1 j' (by omega) h2
    | false => exact ⟨false, start false (Ev.ite_neg (by decide) (Ev.now _)), ⟨fun h => absurd h (by decide), fun h => absurd (hc.2 (h.1 j (Nat.le_refl _) (by omega))) (by decide)⟩⟩
theorem specPile_go (l : List PcT) (hl : l.length ≤ 1048576) (d : Nat) : ∀ i : Nat, l.length - i = d → i ≤ l.length → (∀ j : Nat, j < i → PieceP (pc l j)) → ∃ b : Bool, Ev (fun k => spec_GoodPile.l0 k l (l.length : Int) (i : Int) l) b ∧ (b = true ↔ PileFrom l i ∧ l.length ≤ 60) := by
  induction d with
  | zero =>
    intro i hd hi _
    refine ⟨decide ((l.length : Int) ≤ 60), Ev.step (fun k => by rw [spec_GoodPile.l0]) (Ev.ite_neg (by omega) (Ev.now _)), ?_⟩
    rw [decide_eq_true_iff]
    exact ⟨fun h => ⟨fun j h1 h2 => by omega, by omega⟩, fun h => by omega⟩
  | succ d ih =>
    intro i hd hi hp
    have hlt : i < l.length := by omega
    have hg := specGoodH (pc l i).f0 (pc l i).f1 (pc l i).f2 (pc l i).f3 (pc l i).f4 (pc l i).f5 (pc l i).f6 (pc l i).f7 (pc l i).f8 (pc l i).f9
    have bad : Ev (fun k => spec_GoodPile.j1 k (i : Int) l (l.length : Int) (i : Int) true l (pc l i).f0 (pc l i).f1 (pc l i).f2 (pc l i).f3 (pc l i).f4 (pc l i).f5 (pc l i).f6 (pc l i).f7 (pc l i).f8 (pc l i).f9) false := Ev.step (fun k => by rw [spec_GoodPile.j1]) (Ev.ite_pos rfl (Ev.now _))
    have out : ¬ HeadP l i → (false = true ↔ PileFrom l i ∧ l.length ≤ 60) := fun h => ⟨fun x => absurd x (by decide), fun x => absurd ((PileFrom.step hlt).1 x.1).1.1 h⟩
    by_cases h0 : GoodP (pc l i).f0 (pc l i).f1 (pc l i).f3 (pc l i).f4 (pc l i).f5 (pc l i).f6 (pc l i).f7 (pc l i).f8 (pc l i).f9.size
    case neg =>
      rw [decide_eq_false h0] at hg
      refine ⟨false, Ev.step (fun k => by rw [spec_GoodPile.l0]) (Ev.ite_pos (by omega) (Ev.ite_pos (by omega) (Ev.ite_pos (by omega) (Ev.bind hg ?_)))), out fun h => h0 h.1.1⟩
      exact Ev.ite_neg Bool.false_ne_true bad
    rw [decide_eq_true h0] at hg
    by_cases h8 : (pc l i).f8 = 0
    · refine ⟨false, Ev.step (fun k => by rw [spec_GoodPile.l0]) (Ev.ite_pos (by omega) (Ev.ite_pos (by omega) (Ev.ite_pos (by omega) (Ev.bind hg ?_)))), out fun h => h.1.2 h8⟩
      refine Ev.ite_pos rfl ?_
      exact Ev.ite_pos h8 bad
    have hx : PieceP (pc l i) := ⟨h0, h8⟩
    by_cases hs : SameP (pc l i) (pc l 0)
    case neg =>
      refine ⟨false, Ev.step (fun k => by rw [spec_GoodPile.l0]) (Ev.ite_pos (by omega) (Ev.ite_pos (by omega) (Ev.ite_pos (by omega) (Ev.bind hg ?_)))), out fun h => hs h.2.1⟩
      refine Ev.ite_pos rfl ?_
      refine Ev.ite_neg h8 ?_
      refine Ev.ite_pos (by omega) ?_
      refine Ev.opt_bind (same_val (pc l i) (pc l 0)) ?_
      rw [decide_eq_false hs]
      exact Ev.ite_neg (by decide) bad
    have hp' : ∀ j : Nat, j ≤ i → PieceP (pc l j) := fun j hj => by
      by_cases e : j = i
      · subst e; exact hx
      · exact hp j (by omega)
    obtain ⟨b', e', hb'⟩ := ih (i + 1) (by omega) (by omega) (fun j hj => hp' j (by omega))
    obtain ⟨b, e, hb⟩ := specInner_go l hl i hlt hp' _ b' e' hb' i 0 (by omega) (by omega)
    have go : Ev (fun k => spec_GoodPile.j1 k (i : Int) l (l.length : Int) (i : Int) false l (pc l i).f0 (pc l i).f1 (pc l i).f2 (pc l i).f3 (pc l i).f4 (pc l i).f5 (pc l i).f6 (pc l i).f7 (pc l i).f8 (pc l i).f9) b := by
      refine Ev.step (fun k => by rw [spec_GoodPile.j1]) (Ev.ite_neg (by decide) (Ev.ite_pos (by omega) (Ev.ite_pos (by omega) ?_)))
      simp only [Int.toNat_natCast, Option.bind_some]
      rw [show ((l.take i).length : Int) = (i : Int) by simp; omega]
      exact e
    by_cases hi0 : 0 < i
    · have hw : wrap64 ((i : Int) - 1) = ((i - 1 : Nat) : Int) := by rw [w64 (by omega) (by omega)]; omega
      by_cases hbf : BeforeP (pc l (i - 1)) (pc l i)
      · refine ⟨b, Ev.step (fun k => by rw [spec_GoodPile.l0]) (Ev.ite_pos (by omega) (Ev.ite_pos (by omega) (Ev.ite_pos (by omega) (Ev.bind hg ?_)))), hb.trans ?_⟩
        · refine Ev.ite_pos rfl ?_
          refine Ev.ite_neg h8 ?_
          refine Ev.ite_pos (by omega) ?_
          refine Ev.opt_bind (same_val (pc l i) (pc l 0)) ?_
          rw [decide_eq_true hs, hw]
          refine Ev.ite_pos rfl (Ev.ite_pos (by omega) (Ev.ite_pos (by omega) (Ev.ite_pos (by omega) (Ev.opt_bind (before_val (pc l (i - 1)) (pc l i)) ?_))))
          rw [decide_eq_true hbf]
          exact go
        · rw [PileFrom.step hlt]
          exact ⟨fun h => ⟨⟨⟨⟨hx, hs, fun _ => hbf⟩, fun j hj => h.1 j (Nat.zero_le _) hj⟩, h.2.1⟩, h.2.2⟩, fun h => ⟨fun j _ hj => h.1.1.2 j hj, h.1.2, h.2⟩⟩
      · refine ⟨false, Ev.step (fun k => by rw [spec_GoodPile.l0]) (Ev.ite_pos (by omega) (Ev.ite_pos (by omega) (Ev.ite_pos (by omega) (Ev.bind hg ?_)))), out fun h => hbf (h.2.2 hi0)⟩
        refine Ev.ite_pos rfl ?_
        refine Ev.ite_neg h8 ?_
        refine Ev.ite_pos (by omega) ?_
        refine Ev.opt_bind (same_val (pc l i) (pc l 0)) ?_
        rw [decide_eq_true hs, hw]
        refine Ev.ite_pos rfl (Ev.ite_pos (by omega) (Ev.ite_pos (by omega) (Ev.ite_pos (by omega) (Ev.opt_bind (before_val (pc l (i - 1)) (pc l i)) ?_))))
        rw [decide_eq_false hbf]
        exact bad
    · refine ⟨b, Ev.step (fun k => by rw [spec_GoodPile.l0]) (Ev.ite_pos (by omega) (Ev.ite_pos (by omega) (Ev.ite_pos (by omega) (Ev.bind hg ?_)))), hb.trans ?_⟩
      · refine Ev.ite_pos rfl ?_
        refine Ev.ite_neg h8 ?_
        refine Ev.ite_pos (by omega) ?_
        refine Ev.opt_bind (same_val (pc l i) (pc l 0)) ?_
        rw [decide_eq_true hs]
        exact Ev.ite_pos rfl (Ev.ite_neg (by omega) go)
      · rw [PileFrom.step hlt]
        exact ⟨fun h => ⟨⟨⟨⟨hx, hs, fun h0 => absurd h0 hi0⟩, fun j hj => h.1 j (Nat.zero_le _) hj⟩, h.2.1⟩, h.2.2⟩, fun h => ⟨fun j _ hj => h.1.1.2 j hj, h.1.2, h.2⟩⟩
theorem specPile (l : List PcT) (hl : l.length ≤ 1048576) : ∃ b : Bool, Ev (fun k => spec_GoodPile.f k l) b ∧ (b = true ↔ PileFrom l 0 ∧ l.length ≤ 60) := by
  simpa [spec_GoodPile.f] using specPile_go l hl _ 0 rfl (by omega) (fun j hj => by omega)
def Rep (l : List PcT) (i : Nat) (kn : Int → Option Int) : Prop :=
  (∀ a c, kn a = some c → ∃ j : Nat, j < i ∧ ∃ t : Nat, t < (pc l j).f9.size ∧ (pc l j).f7 + t = a ∧ bt (pc l j).f9 (t : Int) = c) ∧
    ∀ j : Nat, j < i → ∀ t : Nat, t < (pc l j).f9.size → kn ((pc l j).f7 + t) = some (bt (pc l j).f9 (t : Int))
theorem gpIn_good (x : PcT) (hx : PieceP x) (d : Nat) : ∀ (j : Nat) (kn : Int → Option Int), j + d = x.f9.size → (∀ t : Nat, j ≤ t → t < x.f9.size → (kn (x.f7 + t)).getD (bt x.f9 (t : Int)) = bt x.f9 (t : Int)) →
    ∃ kn', gpIn x d (j : Int) kn = some kn' ∧ (∀ t : Nat, j ≤ t → t < x.f9.size → kn' (x.f7 + t) = some (bt x.f9 (t : Int))) ∧ ∀ a, (¬ ∃ t : Nat, j ≤ t ∧ t < x.f9.size ∧ a = x.f7 + t) → kn' a = kn a := by
  have tx := hx.told
  induction d with
  | zero => exact fun j kn hd _ => ⟨kn, rfl, fun t h1 h2 => by omega, fun a _ => rfl⟩
  | succ d ih =>
    intro j kn hd h
    have hw : wrap64 (x.f7 + (j : Int)) = x.f7 + j := w64 (by omega) (by omega)
    obtain ⟨kn', e, h1, h2⟩ := ih (j + 1) (fun y => if y = x.f7 + j then some (bt x.f9 (j : Int)) else kn y) (by omega) (fun t h3 h4 => by
      rw [if_neg (by omega)]
      exact h t (by omega) h4)
    refine ⟨kn', ?_, fun t h3 h4 => ?_, fun a ha => ?_⟩
    · rw [gpIn, hw, if_pos (h j (Nat.le_refl _) (by omega))]
      exact e
    · by_cases et : t = j
      · subst et
        rw [h2 _ (by rintro ⟨s, h5, h6, h7⟩; omega), if_pos rfl]
      · exact h1 t (by omega) h4
    · rw [h2 a (fun ⟨t, h5, h6, h7⟩ => ha ⟨t, by omega, h6, h7⟩), if_neg (fun e => ha ⟨j, Nat.le_refl _, by omega, e⟩)]
theorem gpIn_bad (x : PcT) (hx : PieceP x) (d : Nat) : ∀ (j : Nat) (kn : Int → Option Int), j + d = x.f9.size → (∃ t : Nat, j ≤ t ∧ t < x.f9.size ∧ (kn (x.f7 + t)).getD (bt x.f9 (t : Int)) ≠ bt x.f9 (t : Int)) → gpIn x d (j : Int) kn = none := by
  have tx := hx.told
  induction d with
  | zero => rintro j kn hd ⟨t, h1, h2, _⟩; omega
  | succ d ih =>
    rintro j kn hd ⟨t, h1, h2, h3⟩
    have hw : wrap64 (x.f7 + (j : Int)) = x.f7 + j := w64 (by omega) (by omega)
    rw [gpIn, hw]
    by_cases hj : (kn (x.f7 + j)).getD (bt x.f9 (j : Int)) = bt x.f9 (j : Int)
    · rw [if_pos hj]
      have hne : t ≠ j := by rintro rfl; exact h3 hj
      refine ih (j + 1) _ (by omega) ⟨t, by omega, h2, ?_⟩
      rw [if_neg (by omega)]
      exact h3
    · rw [if_neg hj]
theorem rep_agree {l : List PcT} {i : Nat} {kn : Int → Option Int} (h : Rep l i kn) (x : PcT) : (∀ t : Nat, t < x.f9.size → (kn (x.f7 + t)).getD (bt x.f9 (t : Int)) = bt x.f9 (t : Int)) ↔ ∀ j : Nat, j < i → AgreeFrom x (pc l j) 0 := by
  constructor
  · intro H j hj t _ ht h0 h1
    obtain ⟨k, hk⟩ := Int.eq_ofNat_of_zero_le h0
    have a := h.2 j hj k (by omega)
    have b := H t ht
    rw [show x.f7 + (t : Int) = (pc l j).f7 + k by omega, a] at b
    rw [hk]
    exact b.symm
  · intro H t ht
    cases hk : kn (x.f7 + t) with
    | none => rfl
    | some c =>
      obtain ⟨j, hj, s, hs, e1, e2⟩ := h.1 _ _ hk
      have := H j hj t (Nat.zero_le _) ht (by omega) (by omega)
      rw [this, show x.f7 + (t : Int) - (pc l j).f7 = s by omega, e2]
      rfl
theorem rep_next {l : List PcT} {i : Nat} {kn kn' : Int → Option Int} (h : Rep l i kn) (ha : ∀ j : Nat, j < i → AgreeFrom (pc l i) (pc l j) 0) (h1 : ∀ t : Nat, 0 ≤ t → t < (pc l i).f9.size → kn' ((pc l i).f7 + t) = some (bt (pc l i).f9 (t : Int)))
    (h2 : ∀ a, (¬ ∃ t : Nat, 0 ≤ t ∧ t < (pc l i).f9.size ∧ a = (pc l i).f7 + t) → kn' a = kn a) : Rep l (i + 1) kn' := by
  refine ⟨fun a c hc => ?_, fun j hj t ht => ?_⟩
  · by_cases hin : ∃ t : Nat, 0 ≤ t ∧ t < (pc l i).f9.size ∧ a = (pc l i).f7 + t
    · obtain ⟨t, _, ht, rfl⟩ := hin
      rw [h1 t (Nat.zero_le _) ht] at hc
      exact ⟨i, by omega, t, ht, rfl, Option.some.inj hc⟩
    · rw [h2 a hin] at hc
      obtain ⟨j, hj, r⟩ := h.1 a c hc
      exact ⟨j, by omega, r⟩
  · by_cases e : j = i
    · subst e; exact h1 t (Nat.zero_le _) ht
    · by_cases hin : ∃ s : Nat, 0 ≤ s ∧ s < (pc l i).f9.size ∧ (pc l j).f7 + t = (pc l i).f7 + s
      · obtain ⟨s, _, hs, e2⟩ := hin
        rw [e2, h1 s (Nat.zero_le _) hs]
        have := ha j (by omega) s (Nat.zero_le _) hs (by omega) (by omega)
        rw [this, show (pc l i).f7 + (s : Int) - (pc l j).f7 = t by omega]
      · rw [h2 _ hin]
        exact h.2 j (by omega) t ht
theorem piece_val (x : PcT) (h : -9223372036854775808 ≤ x.f8 ∧ x.f8 ≤ 9223372036854775807) : ∃ b : Bool, Ev (fun k => impl_isPiece.f k x.f0 x.f1 x.f2 x.f3 x.f4 x.f5 x.f6 x.f7 x.f8 x.f9) b ∧ (b = true ↔ PieceP x) := by
  have hg := implGood x.f0 x.f1 x.f2 x.f3 x.f4 x.f5 x.f6 x.f7 x.f8 x.f9 h
  by_cases h0 : GoodP x.f0 x.f1 x.f3 x.f4 x.f5 x.f6 x.f7 x.f8 x.f9.size
  · rw [decide_eq_true h0] at hg
    refine ⟨decide (x.f8 > 0), ?_, ?_⟩
    · simp only [impl_isPiece.f]
      exact Ev.bind hg (Ev.ite_pos rfl (Ev.now _))
    · rw [decide_eq_true_iff]
      refine ⟨fun h1 => ⟨h0, by omega⟩, fun h1 => ?_⟩
      have := PieceP.told h1
      omega
  · rw [decide_eq_false h0] at hg
    refine ⟨false, ?_, ⟨fun h1 => absurd h1 (by decide), fun h1 => absurd h1.1 h0⟩⟩
    simp only [impl_isPiece.f]
    exact Ev.bind hg (Ev.ite_neg (by decide) (Ev.now _))
theorem order_val (p x : PcT) (hp : PieceP p) (hx : PieceP x) : ∃ n : Int, impl_order.f p.f0 p.f1 p.f2 p.f3 p.f4 p.f5 p.f6 p.f7 p.f8 p.f9 x.f0 x.f1 x.f2 x.f3 x.f4 x.f5 x.f6 x.f7 x.f8 x.f9 = some n ∧ (n ≥ 0 ↔ ¬ BeforeP p x) := by
  have tp := hp.told
  have tx := hx.told
  unfold impl_order.f BeforeP
  by_cases h : p.f7 = x.f7
  · rw [if_pos h]
    refine ⟨_, rfl, ?_⟩
    rw [w64 (by omega) (by omega)]
    omega
  · rw [if_neg h]
    refine ⟨_, rfl, ?_⟩
    rw [w64 (by omega) (by omega)]
    omega
theorem implPile_go (l : List PcT) (hl : l.length ≤ 60) (h8 : ∀ j : Nat, j < l.length → -9223372036854775808 ≤ (pc l j).f8 ∧ (pc l j).f8 ≤ 9223372036854775807) (d : Nat) : ∀ (i : Nat) (kn : Int → Option Int), l.length - i = d → i ≤ l.length → (∀ j : Nat, j < i → PieceP (pc l j)) → Rep l i kn →
    ∃ b : Bool, Ev (fun k => impl_GoodPile.l0 k l (l.length : Int) (i : Int) l kn) b ∧ (b = true ↔ PileFrom l i) := by
  induction d with
  | zero =>
    intro i kn hd hi _ _
    exact ⟨true, Ev.step (fun k => by rw [impl_GoodPile.l0]) (Ev.ite_neg (by omega) (Ev.now _)), ⟨fun _ j h1 h2 => by omega, fun _ => rfl⟩⟩
  | succ d ih =>
    intro i kn hd hi hp hr
    have hlt : i < l.length := by omega
    obtain ⟨c, ec, hc⟩ := piece_val (pc l i) (h8 i hlt)
    have bad : Ev (fun k => impl_GoodPile.j1 k l (l.length : Int) (i : Int) true l kn) false := Ev.step (fun k => by rw [impl_GoodPile.j1]) (Ev.ite_pos rfl (Ev.now _))
    have out : ¬ HeadP l i → (false = true ↔ PileFrom l i) := fun h => ⟨fun x => absurd x (by decide), fun x => absurd ((PileFrom.step hlt).1 x).1.1 h⟩
    cases c with
    | false =>
      refine ⟨false, Ev.step (fun k => by rw [impl_GoodPile.l0]) (Ev.ite_pos (by omega) (Ev.ite_pos (by omega) (Ev.ite_pos (by omega) (Ev.bind ec ?_)))), out fun h => absurd (hc.2 h.1) (by decide)⟩
      exact Ev.ite_neg Bool.false_ne_true bad
    | true =>
      have hx : PieceP (pc l i) := hc.1 rfl
      have tx := hx.told
      have hsame : (!((pc l i).f0 == (pc l 0).f0) || (!((pc l i).f1 == (pc l 0).f1) || (!((pc l i).f2 == (pc l 0).f2) || (!((pc l i).f3 == (pc l 0).f3) || (!((pc l i).f4 == (pc l 0).f4) || (!((pc l i).f5 == (pc l 0).f5) || (!((0 : Int) == 0) || (!((0 : Int) == 0) || (!((pc l i).f8 == (pc l 0).f8) || (!((⟨#[]⟩ : ByteArray).toList == (⟨#[]⟩ : ByteArray).toList))))))))))) = !decide (SameP (pc l i) (pc l 0)) := by
        unfold SameP
        by_cases h0 : (pc l i).f0 = (pc l 0).f0 <;> by_cases h1 : (pc l i).f1 = (pc l 0).f1 <;> by_cases h2 : (pc l i).f2 = (pc l 0).f2 <;> by_cases h3 : (pc l i).f3 = (pc l 0).f3 <;> by_cases h4 : (pc l i).f4 = (pc l 0).f4 <;> by_cases h5 : (pc l i).f5 = (pc l 0).f5 <;> by_cases h6 : (pc l i).f8 = (pc l 0).f8 <;> simp [h0, h1, h2, h3, h4, h5, h6]
      have start : ∀ r, Ev (fun k => if (!decide (SameP (pc l i) (pc l 0))) = true then impl_GoodPile.j1 k l (l.length : Int) (i : Int) true l kn else (if (i : Int) > 0 then (if 0 ≤ (wrap64 ((i : Int) - 1)) then (if (wrap64 ((i : Int) - 1)) < (l.length : Int) then ((impl_order.f (rd_T46 l (wrap64 ((i : Int) - 1))).f0 (rd_T46 l (wrap64 ((i : Int) - 1))).f1 (rd_T46 l (wrap64 ((i : Int) - 1))).f2 (rd_T46 l (wrap64 ((i : Int) - 1))).f3 (rd_T46 l (wrap64 ((i : Int) - 1))).f4 (rd_T46 l (wrap64 ((i : Int) - 1))).f5 (rd_T46 l (wrap64 ((i : Int) - 1))).f6 (rd_T46 l (wrap64 ((i : Int) - 1))).f7 (rd_T46 l (wrap64 ((i : Int) - 1))).f8 (rd_T46 l (wrap64 ((i : Int) - 1))).f9 (pc l i).f0 (pc l i).f1 (pc l i).f2 (pc l i).f3 (pc l i).f4 (pc l i).f5 (pc l i).f6 (pc l i).f7 (pc l i).f8 (pc l i).f9).bind fun n => impl_GoodPile.j1 k l (l.length : Int) (i : Int) (decide (n ≥ 0)) l kn) else none) else none) else impl_GoodPile.j1 k l (l.length : Int) (i : Int) false l kn)) r →
          Ev (fun k => impl_GoodPile.l0 k l (l.length : Int) (i : Int) l kn) r := by
        intro r h
        refine Ev.step (fun k => by rw [impl_GoodPile.l0]) (Ev.ite_pos (by omega) (Ev.ite_pos (by omega) (Ev.ite_pos (by omega) (Ev.bind ec (Ev.ite_pos rfl ?_)))))
        simp only [impl_of.f, Option.bind_some]
        refine Ev.ite_pos (by omega) ?_
        rw [← hsame] at h
        exact h
      by_cases hs : SameP (pc l i) (pc l 0)
      case neg => exact ⟨false, start _ (Ev.ite_pos (by rw [decide_eq_false hs]; rfl) bad), out fun h => hs h.2.1⟩
      have hp' : ∀ j : Nat, j ≤ i → PieceP (pc l j) := fun j hj => by
        by_cases e : j = i
        · subst e; exact hx
        · exact hp j (by omega)
      have go : ∃ b : Bool, Ev (fun k => impl_GoodPile.j1 k l (l.length : Int) (i : Int) false l kn) b ∧ (b = true ↔ (∀ j : Nat, j < i → AgreeFrom (pc l i) (pc l j) 0) ∧ PileFrom l (i + 1)) := by
        have hw : wrap64 ((i : Int) + 1) = ((i + 1 : Nat) : Int) := by rw [w64 (by omega) (by omega)]; omega
        by_cases ha : ∀ t : Nat, t < (pc l i).f9.size → (kn ((pc l i).f7 + t)).getD (bt (pc l i).f9 (t : Int)) = bt (pc l i).f9 (t : Int)
        · obtain ⟨kn', e, k1, k2⟩ := gpIn_good (pc l i) hx (pc l i).f9.size 0 kn (by omega) (fun t _ ht => ha t ht)
          have ha' := (rep_agree hr (pc l i)).1 ha
          obtain ⟨b, eb, hb⟩ := ih (i + 1) kn' (by omega) (by omega) (fun j hj => hp' j (by omega)) (rep_next hr ha' k1 k2)
          refine ⟨b, Ev.step (fun k => by rw [impl_GoodPile.j1]) (Ev.ite_neg (by decide) (Ev.ite_pos tx.2.2.1 ?_)), hb.trans ⟨fun h => ⟨ha', h⟩, fun h => h.2⟩⟩
          have e' : gpIn (rd_T46 l (i : Int)) (rd_T46 l (i : Int)).f9.size 0 kn = some kn' := e
          rw [e', hw]
          exact Ev.ite_pos rfl eb
        · have hb : ∃ t : Nat, 0 ≤ t ∧ t < (pc l i).f9.size ∧ (kn ((pc l i).f7 + t)).getD (bt (pc l i).f9 (t : Int)) ≠ bt (pc l i).f9 (t : Int) := by
            exact Classical.byContradiction fun hn => ha fun t ht => Classical.byContradiction fun h => hn ⟨t, Nat.zero_le _, ht, h⟩
          have e := gpIn_bad (pc l i) hx (pc l i).f9.size 0 kn (by omega) hb
          refine ⟨false, Ev.step (fun k => by rw [impl_GoodPile.j1]) (Ev.ite_neg (by decide) (Ev.ite_pos tx.2.2.1 ?_)), ⟨fun h => absurd h (by decide), fun h => absurd ((rep_agree hr (pc l i)).2 h.1) ha⟩⟩
          have e' : gpIn (rd_T46 l (i : Int)) (rd_T46 l (i : Int)).f9.size 0 kn = none := e
          rw [e']
          exact Ev.ite_neg (by decide) (Ev.now _)
      obtain ⟨b, eb, hb⟩ := go
      by_cases hi0 : 0 < i
      · have hw : wrap64 ((i : Int) - 1) = ((i - 1 : Nat) : Int) := by rw [w64 (by omega) (by omega)]; omega
        obtain ⟨n, en, hn⟩ := order_val (pc l (i - 1)) (pc l i) (hp' (i - 1) (by omega)) hx
        by_cases hbf : BeforeP (pc l (i - 1)) (pc l i)
        · refine ⟨b, start b (Ev.ite_neg (by rw [decide_eq_true hs]; decide) ?_), hb.trans ?_⟩
          · rw [hw]
            refine Ev.ite_pos (by omega) (Ev.ite_pos (by omega) (Ev.ite_pos (by omega) (Ev.opt_bind en ?_)))
            rw [decide_eq_false (fun h => hn.1 h hbf)]
            exact eb
          · rw [PileFrom.step hlt]
            exact ⟨fun h => ⟨⟨⟨hx, hs, fun _ => hbf⟩, h.1⟩, h.2⟩, fun h => ⟨h.1.2, h.2⟩⟩
        · refine ⟨false, start _ (Ev.ite_neg (by rw [decide_eq_true hs]; decide) ?_), out fun h => hbf (h.2.2 hi0)⟩
          rw [hw]
          refine Ev.ite_pos (by omega) (Ev.ite_pos (by omega) (Ev.ite_pos (by omega) (Ev.opt_bind en ?_)))
          rw [decide_eq_true (hn.2 hbf)]
          exact bad
      · refine ⟨b, start b (Ev.ite_neg (by rw [decide_eq_true hs]; decide) (Ev.ite_neg (by omega) eb)), hb.trans ?_⟩
        rw [PileFrom.step hlt]
        exact ⟨fun h => ⟨⟨⟨hx, hs, fun h0 => absurd h0 hi0⟩, h.1⟩, h.2⟩, fun h => ⟨h.1.2, h.2⟩⟩
theorem implPile (l : List PcT) (h8 : ∀ j : Nat, j < l.length → -9223372036854775808 ≤ (pc l j).f8 ∧ (pc l j).f8 ≤ 9223372036854775807) : ∃ b : Bool, Ev (fun k => impl_GoodPile.f k l) b ∧ (b = true ↔ PileFrom l 0 ∧ l.length ≤ 60) := by
  simp only [impl_GoodPile.f]
  by_cases h : (l.length : Int) > 60
  · exact ⟨false, Ev.ite_pos h (Ev.now _), ⟨fun x => absurd x (by decide), fun x => by omega⟩⟩
  · obtain ⟨b, e, hb⟩ := implPile_go l (by omega) h8 _ 0 (fun _ => none) rfl (by omega) (fun j hj => by omega) ⟨fun a c h => by simp at h, fun j hj => by omega⟩
    exact ⟨b, Ev.ite_neg h e, hb.trans ⟨fun h' => ⟨h', by omega⟩, fun h' => h'.1⟩⟩
theorem eqBundle_self (a0 a1 : Int) (a2 : Bool) (a3 a4 a5 a6 a7 a8 : Int) (a9 : ByteArray) : laws_eqBundle.f a0 a1 a2 a3 a4 a5 a6 a7 a8 a9 a0 a1 a2 a3 a4 a5 a6 a7 a8 a9 = some true := by
  simp [laws_eqBundle.f]
theorem rdBL_eq (l : List S42) (i : Nat) (h : i < l.length) : rd_T42 l (i : Int) = l[i] := by
  simp [rd_T42, List.getD_eq_getElem?_getD, List.getElem?_eq_getElem h]
def bundleOf (x : S42) : S46 := ⟨x.f0, x.f1, x.f2, x.f3, x.f4, x.f5, x.f6, x.f7, x.f8, x.f9⟩
theorem szBundleS_go (l : List S42) (hl : l.length ≤ 1048576) (hs : ∀ i : Nat, i < l.length → (rd_T42 l (i : Int)).f9.size ≤ maxLen) (d : Nat) : ∀ (i : Nat) (left : Int), i ≤ l.length → l.length - i = d → 0 ≤ left → left ≤ 1048576 →
    ∃ r, Ev (fun k => laws_szBundleS.l0 k l left (i : Int)) r ∧ (0 ≤ r → ∀ j : Nat, i ≤ j → j < l.length → (rd_T42 l (j : Int)).f9.size ≤ 1048576) := by
  induction d with
  | zero =>
    intro i left h0 hd h1 h2
    refine ⟨left, ?_, fun _ j h3 h4 => by omega⟩
    refine Ev.step (fun k => by rw [laws_szBundleS.l0]) ?_
    exact Ev.ite_neg (by omega) (Ev.now _)
  | succ d ih =>
    intro i left h0 hd h1 h2
    have hi : i < l.length := by omega
    have hw : wrap64 ((i : Int) + 1) = ((i + 1 : Nat) : Int) := by rw [w64 (by omega) (by omega)]; omega
    have hz := hs i hi
    unfold maxLen at hz
    have hw2 : wrap64 (left - ((rd_T42 l (i : Int)).f9.size : Int)) = left - ((rd_T42 l (i : Int)).f9.size : Int) := w64 (by omega) (by omega)
    by_cases hn : left - ((rd_T42 l (i : Int)).f9.size : Int) < 0
    · refine ⟨-1, ?_, fun h => by omega⟩
      refine Ev.step (fun k => by rw [laws_szBundleS.l0]) ?_
      refine Ev.ite_pos (by omega) (Ev.ite_pos (by omega) ?_)
      simp only [laws_szBundle.f, hw2, if_pos hn, Option.bind_some]
      exact Ev.ite_pos (by omega) (Ev.now _)
    · obtain ⟨r, a, b⟩ := ih (i + 1) (left - ((rd_T42 l (i : Int)).f9.size : Int)) (by omega) (by omega) (by omega) (by omega)
      refine ⟨r, ?_, fun h j h3 h4 => ?_⟩
      · refine Ev.step (fun k => by rw [laws_szBundleS.l0]) ?_
        refine Ev.ite_pos (by omega) (Ev.ite_pos (by omega) ?_)
        simp only [laws_szBundle.f, hw2, if_neg hn, Option.bind_some]
        rw [hw]
        exact a
      · rcases Nat.lt_or_ge i j with h5 | h5
        · exact b h j h5 h4
        · obtain rfl : j = i := by omega
          omega
theorem szBundleS_val (l : List S42) (hl : l.length ≤ maxLen) (hs : ∀ i : Nat, i < l.length → (rd_T42 l (i : Int)).f9.size ≤ maxLen) :
    ∃ r, Ev (fun k => laws_szBundleS.f k l 1048576) r ∧ (0 ≤ r → l.length ≤ 1048576 ∧ ∀ j : Nat, j < l.length → (rd_T42 l (j : Int)).f9.size ≤ 1048576) := by
  unfold maxLen at hl
  have hw : wrap64 (1048576 - (l.length : Int)) = 1048576 - (l.length : Int) := w64 (by omega) (by omega)
  simp only [laws_szBundleS.f, hw]
  by_cases h : 1048576 - (l.length : Int) < 0
  · exact ⟨-1, Ev.ite_pos h (Ev.now _), fun h => by omega⟩
  · obtain ⟨r, a, b⟩ := szBundleS_go l (by omega) hs l.length 0 (1048576 - (l.length : Int)) (by omega) (by omega) (by omega) (by omega)
    exact ⟨r, Ev.ite_neg h a, fun h' => ⟨by omega, fun j hj => b h' j (by omega) hj⟩⟩
theorem toBundleS_go (l : List S42) (hl : l.length ≤ 1048576) (d : Nat) : ∀ i : Nat, i ≤ l.length → l.length - i = d → Ev (fun k => laws_toBundleS.l0 k l ((l.map bundleOf).take i ++ List.replicate ((l.map bundleOf).length - i) z46) (i : Int)) (l.map bundleOf) := by
  induction d with
  | zero =>
    intro i h0 hd
    obtain rfl : i = l.length := by omega
    refine Ev.step (fun k => by rw [laws_toBundleS.l0]) ?_
    exact Ev.ite_neg (by omega) (Ev.now' (by rw [List.length_map, Nat.sub_self, List.replicate_zero, List.append_nil, List.take_of_length_le (by simp)]))
  | succ d ih =>
    intro i h0 hd
    have hlt : i < l.length := by omega
    have hlt2 : i < (l.map bundleOf).length := by simpa using hlt
    have hw : wrap64 ((i : Int) + 1) = ((i + 1 : Nat) : Int) := by rw [w64 (by omega) (by omega)]; omega
    have hlen : ((l.map bundleOf).take i ++ List.replicate ((l.map bundleOf).length - i) z46).length = l.length := by simp; omega
    have a := ih (i + 1) (by omega) (by omega)
    rw [← fill_step (l.map bundleOf) z46 i hlt2] at a
    refine Ev.step (fun k => by rw [laws_toBundleS.l0]) ?_
    refine Ev.ite_pos (by omega) (Ev.ite_pos (by omega) ?_)
    simp only [laws_toBundle.f, Option.bind_some, hw, Int.toNat_natCast, rdBL_eq l i hlt]
    refine Ev.ite_pos (by rw [hlen]; omega) ?_
    have e : (l.map bundleOf)[i] = (⟨l[i].f0, l[i].f1, l[i].f2, l[i].f3, l[i].f4, l[i].f5, l[i].f6, l[i].f7, l[i].f8, l[i].f9⟩ : S46) := by simp [bundleOf]
    rw [e] at a
    exact a
theorem toBundleS_val (l : List S42) (hl : l.length ≤ 1048576) : Ev (fun k => laws_toBundleS.f k l) (l.map bundleOf) := by
  have := toBundleS_go l hl l.length 0 (by omega) (by omega)
  simp only [laws_toBundleS.f, Int.toNat_natCast]
  refine Ev.ite_pos (by omega) (Ev.ite_pos (by omega) ?_)
  simpa using this
theorem eqBundleS_go (l : List S46) (hl : l.length ≤ 1048576) (d : Nat) : ∀ i : Nat, l.length - i = d → Ev (fun k => laws_eqBundleS.l0 k l l (i : Int)) true := by
  induction d with
  | zero =>
    intro i hd
    refine Ev.step (fun k => by rw [laws_eqBundleS.l0]) ?_
    exact Ev.ite_neg (by omega) (Ev.now _)
  | succ d ih =>
    intro i hd
    have hw : wrap64 ((i : Int) + 1) = ((i + 1 : Nat) : Int) := by rw [w64 (by omega) (by omega)]; omega
    refine Ev.step (fun k => by rw [laws_eqBundleS.l0]) ?_
    refine Ev.ite_pos (by omega) (Ev.ite_pos (by omega) (Ev.ite_pos (by omega) ?_))
    simp only [eqBundle_self, if_true, Option.bind_some, hw]
    exact ih (i + 1) (by omega)
theorem eqBundleS_self (l : List S46) (hl : l.length ≤ 1048576) : Ev (fun k => laws_eqBundleS.f k l l) true := by
  simp only [laws_eqBundleS.f, if_true]
  exact (eqBundleS_go l hl l.length 0 (by omega))
theorem pc_map (l : List S42) (h : ∀ x ∈ l, ok42 x) : ∀ j : Nat, j < (l.map bundleOf).length → -9223372036854775808 ≤ (pc (l.map bundleOf) j).f8 ∧ (pc (l.map bundleOf) j).f8 ≤ 9223372036854775807 := by
  intro j hj
  have hj' : j < l.length := by simpa using hj
  have e : pc (l.map bundleOf) j = bundleOf l[j] := by simp [pc, rd_T46, List.getD_eq_getElem?_getD, hj']
  rw [e]
  have := h l[j] (List.getElem_mem hj')
  unfold ok42 at this
  exact wf_i64 this.2.2.2.2.2.2.2.2.1
theorem bundle_sizes (l : List S42) (h : ∀ x ∈ l, ok42 x) : ∀ i : Nat, i < l.length → (rd_T42 l (i : Int)).f9.size ≤ maxLen := by
  intro i hi
  rw [rdBL_eq l i hi]
  have := h l[i] (List.getElem_mem hi)
  unfold ok42 at this
  exact this.2.2.2.2.2.2.2.2.2
theorem pile_both (l : List PcT) (hl : l.length ≤ 1048576) (h8 : ∀ j : Nat, j < l.length → -9223372036854775808 ≤ (pc l j).f8 ∧ (pc l j).f8 ≤ 9223372036854775807) :
    ∃ b : Bool, Ev (fun k => spec_GoodPile.f k l) b ∧ Ev (fun k => impl_GoodPile.f k l) b ∧ (b = true ↔ PileFrom l 0 ∧ l.length ≤ 60) := by
  obtain ⟨b, e, h⟩ := specPile l hl
  obtain ⟨c, f, g⟩ := implPile l h8
  have : b = c := by
    cases b <;> cases c <;> first | rfl | exact absurd (h.2 (g.1 rfl)) (by decide) | exact absurd (g.2 (h.1 rfl)) (by decide)
  subst this
  exact ⟨b, e, f, h⟩
theorem FnExactGoodPile : Go.Proofs.Ytlkbbolkadkedaa.GoalFnExactGoodPile.Goal := by
  intro l hok
  refine Ev.rounds ?_
  obtain ⟨r, a, hr⟩ := szBundleS_val l hok.1 (bundle_sizes l hok.2)
  simp only [laws_FnExactGoodPile.f, laws_szPile.f]
  by_cases h : r < 0
  · refine Ev.bind (Ev.bind a (Ev.ite_pos h (Ev.now _))) ?_
    exact Ev.ite_pos (by decide) (Ev.now _)
  · refine Ev.bind (Ev.bind a (Ev.ite_neg h (Ev.now _))) ?_
    refine Ev.ite_neg h ?_
    have hl := (hr (by omega)).1
    have hto : Ev (fun k => laws_toPile.f k l) (l.map bundleOf) := by
      simp only [laws_toPile.f]
      exact Ev.bind (toBundleS_val l hl) (Ev.now _)
    obtain ⟨b, e, f, _⟩ := pile_both (l.map bundleOf) (by simpa using hl) (pc_map l hok.2)
    have eq : Ev (fun k => laws_eqPile.f k (l.map bundleOf) (l.map bundleOf)) true := by
      simp only [laws_eqPile.f]
      exact Ev.bind (eqBundleS_self _ (by simpa using hl)) (Ev.ite_pos rfl (Ev.now _))
    refine Ev.bind hto ?_
    refine Ev.bind e ?_
    refine Ev.bind hto ?_
    refine Ev.bind f ?_
    refine Ev.ite_neg (by simp) ?_
    refine Ev.bind hto ?_
    refine Ev.bind eq ?_
    exact Ev.ite_pos rfl (Ev.now _)
end Go.Proofs.Ytlkbbolkadkedaa.Pure
