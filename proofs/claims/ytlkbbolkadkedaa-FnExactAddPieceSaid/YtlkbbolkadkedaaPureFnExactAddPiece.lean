import Derived.Test.YtlkbbolkadkedaaQFnExactAddPiecex14
import Derived.Test.YtlkbbolkadkedaaPlain
import Derived.Test.YtlkbbolkadkedaaGoalFnExactAddPiece
set_option linter.unusedVariables false
set_option linter.unusedSimpArgs false
namespace Go.Proofs.Ytlkbbolkadkedaa.Pure
open Go.RowKit Go.Proofs.Ytlkbbolkadkedaa.QFnExactAddPiece Go.Proofs.YtlkbbolkadkedaaW.PrintWords Go.Proofs.YtlkbbolkadkedaaW.PrintLast Go.Proofs.Ytlkbbolkadkedaa.Plain Go.Proofs.Ytlkbbolkadkedaa.GoalFnExactAddPiece
def GoodP (f t mk no life hops off tot : Int) (n : Nat) : Prop :=
  (0 ≤ f ∧ f ≤ 40) ∧ (0 ≤ t ∧ t ≤ 40) ∧ (0 ≤ mk ∧ mk ≤ 1000000) ∧ (0 ≤ no ∧ no ≤ 1000) ∧ (1 ≤ life ∧ life ≤ 1000000) ∧ (0 ≤ hops ∧ hops ≤ 30) ∧ n ≤ 60 ∧
    ((tot = 0 ∧ off = 0) ∨ (1 ≤ tot ∧ tot ≤ 60 ∧ 0 ≤ off ∧ off + n ≤ tot ∧ 0 < n))
instance (f t mk no life hops off tot : Int) (n : Nat) : Decidable (GoodP f t mk no life hops off tot n) := by unfold GoodP; infer_instance
theorem specIn (a b c : Int) : spec_l1In.f a b c = some (decide (b ≤ a ∧ a ≤ c)) := by
  unfold spec_l1In.f
  by_cases h : b ≤ a <;> simp [h]
theorem specGoodH (a0 a1 : Int) (a2 : Bool) (a3 a4 a5 a6 a7 a8 : Int) (a9 : ByteArray) :
    Ev (fun k => spec_GoodBundle.f k a0 a1 a2 a3 a4 a5 a6 a7 a8 a9) (decide (GoodP a0 a1 a3 a4 a5 a6 a7 a8 a9.size)) := by
  have no : ¬ GoodP a0 a1 a3 a4 a5 a6 a7 a8 a9.size → Ev (fun k => spec_GoodBundle.j0 k true a0 a1 a2 a3 a4 a5 a6 a7 a8 a9) (decide (GoodP a0 a1 a3 a4 a5 a6 a7 a8 a9.size)) := fun h => by
    rw [decide_eq_false h]; exact Ev.step (fun k => by rw [spec_GoodBundle.j0]) (Ev.ite_pos rfl (Ev.now _))
  simp only [spec_GoodBundle.f, specIn, Option.bind_some, decide_eq_true_eq]
  refine Ev.ite (fun h0 => ?_) fun h => no (by unfold GoodP; omega)
  refine Ev.ite (fun h1 => ?_) fun h => no (by unfold GoodP; omega)
  refine Ev.ite (fun h3 => ?_) fun h => no (by unfold GoodP; omega)
  refine Ev.ite (fun h4 => ?_) fun h => no (by unfold GoodP; omega)
  refine Ev.ite (fun h5 => ?_) fun h => no (by unfold GoodP; omega)
  refine Ev.ite (fun h6 => ?_) fun h => no (by unfold GoodP; omega)
  refine Ev.ite (fun hn => no (by unfold GoodP; omega)) fun hn => ?_
  refine Ev.ite (fun h8 => ?_) fun h => no (by unfold GoodP; omega)
  by_cases h7 : 0 ≤ a7 ∧ a7 ≤ a8
  case neg =>
    rw [decide_eq_false h7]
    exact no (by unfold GoodP; omega)
  rw [decide_eq_true h7]
  refine Ev.step (fun k => by rw [spec_GoodBundle.j0]) (Ev.ite_neg (by decide) ?_)
  refine Ev.ite (fun hz => Ev.now' (decide_eq_true (by unfold GoodP; omega)).symm) fun hz => ?_
  refine Ev.ite (fun hp => Ev.now' ?_) fun hp => Ev.now' (decide_eq_false (by unfold GoodP; omega)).symm
  rw [w64 (by omega) (by omega)]
  exact decide_eq_decide.mpr (by unfold GoodP; omega)
theorem implWithin (a b c : Int) : impl_within.f a b c = some (decide (b ≤ a ∧ a ≤ c)) := by
  unfold impl_within.f
  by_cases h : b ≤ a <;> simp [h]
theorem implGood_no (a0 a1 : Int) (a2 : Bool) (a3 a4 a5 a6 a7 a8 : Int) (a9 : ByteArray) : Ev (fun k => impl_GoodBundle.j0 k true a0 a1 a2 a3 a4 a5 a6 a7 a8 a9) false := by
  refine Ev.step (fun k => by rw [impl_GoodBundle.j0]) ?_
  exact Ev.ite_pos rfl (Ev.now _)
theorem isEmpty_size (s : ByteArray) : s.toList.isEmpty = decide (s.size = 0) := by
  rw [ByteArray.toList_eq, ← size_data]
  cases s.data.toList <;> simp
theorem implGood_end (a0 a1 : Int) (a2 : Bool) (a3 a4 a5 a6 a7 a8 : Int) (a9 : ByteArray) (h8 : -9223372036854775808 ≤ a8 ∧ a8 ≤ 9223372036854775807) (h : a9.size ≤ 60) :
    Ev (fun k => impl_GoodBundle.j0 k (decide ((a9.size : Int) > 60)) a0 a1 a2 a3 a4 a5 a6 a7 a8 a9) (decide ((a8 = 0 ∧ a7 = 0) ∨ (1 ≤ a8 ∧ a8 ≤ 60 ∧ 0 ≤ a7 ∧ a7 + a9.size ≤ a8 ∧ 0 < a9.size))) := by
  rw [decide_eq_false (show ¬ (a9.size : Int) > 60 by omega)]
  refine Ev.step (fun k => by rw [impl_GoodBundle.j0]) ?_
  refine Ev.ite_neg (by simp) ?_
  by_cases hz : a8 = 0
  · refine Ev.ite_pos hz (Ev.now' ?_)
    rw [show (a7 == 0) = decide (a7 = 0) from rfl]
    exact decide_eq_decide.mpr (by omega)
  · refine Ev.ite_neg hz ?_
    rw [implWithin, implWithin, isEmpty_size]
    simp only [Option.bind_some, decide_eq_true_eq]
    by_cases h1 : 1 ≤ a8 ∧ a8 ≤ 60
    · refine Ev.ite_pos h1 ?_
      rw [w64 (by omega) (by omega)]
      by_cases h2 : 0 ≤ a7 ∧ a7 ≤ a8 - (a9.size : Int)
      · refine Ev.ite_pos h2 (Ev.now' ?_)
        by_cases h3 : a9.size = 0
        · rw [decide_eq_true h3, decide_eq_false (show ¬ _ by omega)]; rfl
        · rw [decide_eq_false h3, decide_eq_true (show _ by omega)]; rfl
      · refine Ev.ite_neg h2 (Ev.now' (decide_eq_false (by omega)).symm)
    · refine Ev.ite_neg h1 (Ev.now' (decide_eq_false (by omega)).symm)
theorem implGood (a0 a1 : Int) (a2 : Bool) (a3 a4 a5 a6 a7 a8 : Int) (a9 : ByteArray) (h8 : -9223372036854775808 ≤ a8 ∧ a8 ≤ 9223372036854775807) :
    Ev (fun k => impl_GoodBundle.f k a0 a1 a2 a3 a4 a5 a6 a7 a8 a9) (decide (GoodP a0 a1 a3 a4 a5 a6 a7 a8 a9.size)) := by
  have no : ¬ GoodP a0 a1 a3 a4 a5 a6 a7 a8 a9.size → Ev (fun k => impl_GoodBundle.j0 k true a0 a1 a2 a3 a4 a5 a6 a7 a8 a9) (decide (GoodP a0 a1 a3 a4 a5 a6 a7 a8 a9.size)) := fun h => by
    rw [decide_eq_false h]; exact implGood_no ..
  simp only [impl_GoodBundle.f, implWithin, Option.bind_some, decide_eq_true_eq]
  refine Ev.ite (fun h0 => ?_) fun h => no (by unfold GoodP; omega)
  refine Ev.ite (fun h1 => ?_) fun h => no (by unfold GoodP; omega)
  refine Ev.ite (fun h3 => ?_) fun h => no (by unfold GoodP; omega)
  refine Ev.ite (fun h4 => ?_) fun h => no (by unfold GoodP; omega)
  refine Ev.ite (fun h5 => ?_) fun h => no (by unfold GoodP; omega)
  refine Ev.ite (fun h6 => ?_) fun h => no (by unfold GoodP; omega)
  by_cases hn : a9.size ≤ 60
  · have e : decide (GoodP a0 a1 a3 a4 a5 a6 a7 a8 a9.size) = decide ((a8 = 0 ∧ a7 = 0) ∨ (1 ≤ a8 ∧ a8 ≤ 60 ∧ 0 ≤ a7 ∧ a7 + a9.size ≤ a8 ∧ 0 < a9.size)) :=
      decide_eq_decide.mpr (by unfold GoodP; omega)
    rw [e]
    exact implGood_end a0 a1 a2 a3 a4 a5 a6 a7 a8 a9 h8 hn
  · rw [decide_eq_true (show (a9.size : Int) > 60 by omega)]
    exact no (by unfold GoodP; omega)
abbrev PcT := S46
abbrev pc (l : List PcT) (i : Nat) : PcT := rd_T46 l (i : Int)
def PieceP (x : PcT) : Prop := GoodP x.f0 x.f1 x.f3 x.f4 x.f5 x.f6 x.f7 x.f8 x.f9.size ∧ x.f8 ≠ 0
def SameP (x y : PcT) : Prop := x.f0 = y.f0 ∧ x.f1 = y.f1 ∧ x.f2 = y.f2 ∧ x.f3 = y.f3 ∧ x.f4 = y.f4 ∧ x.f5 = y.f5 ∧ x.f8 = y.f8
instance (x y : PcT) : Decidable (SameP x y) := by unfold SameP; infer_instance
def BeforeP (x y : PcT) : Prop := x.f7 < y.f7 ∨ (x.f7 = y.f7 ∧ x.f9.size < y.f9.size)
instance (x y : PcT) : Decidable (BeforeP x y) := by unfold BeforeP; infer_instance
def AgreeFrom (x y : PcT) (s : Nat) : Prop := ∀ t : Nat, s ≤ t → t < x.f9.size → 0 ≤ x.f7 + t - y.f7 → x.f7 + t - y.f7 < (y.f9.size : Int) → bt x.f9 (t : Int) = bt y.f9 (x.f7 + t - y.f7)
def HeadP (l : List PcT) (i : Nat) : Prop := PieceP (pc l i) ∧ SameP (pc l i) (pc l 0) ∧ (0 < i → BeforeP (pc l (i - 1)) (pc l i))
def RightP (l : List PcT) (i : Nat) : Prop := HeadP l i ∧ ∀ j : Nat, j < i → AgreeFrom (pc l i) (pc l j) 0
def PileFrom (l : List PcT) (i : Nat) : Prop := ∀ j : Nat, i ≤ j → j < l.length → RightP l j
theorem PileFrom.step {l : List PcT} {i : Nat} (h : i < l.length) : PileFrom l i ↔ RightP l i ∧ PileFrom l (i + 1) := by
  constructor
  · exact fun H => ⟨H i (Nat.le_refl _) h, fun j h1 h2 => H j (by omega) h2⟩
  · rintro ⟨a, b⟩ j h1 h2
    by_cases e : j = i
    · subst e; exact a
    · exact b j (by omega) h2
theorem PieceP.told {x : PcT} (h : PieceP x) : 0 ≤ x.f7 ∧ x.f7 ≤ 60 ∧ x.f9.size ≤ 60 ∧ 0 < x.f9.size ∧ x.f7 + x.f9.size ≤ x.f8 ∧ x.f8 ≤ 60 ∧ 0 < x.f8 := by
  obtain ⟨h, h0⟩ := h
  unfold GoodP at h
  omega
theorem same_val (x y : PcT) : spec_l4Same.f x.f0 x.f1 x.f2 x.f3 x.f4 x.f5 x.f6 x.f7 x.f8 x.f9 y.f0 y.f1 y.f2 y.f3 y.f4 y.f5 y.f6 y.f7 y.f8 y.f9 = some (decide (SameP x y)) := by
  unfold spec_l4Same.f SameP
  by_cases h0 : x.f0 = y.f0 <;> by_cases h1 : x.f1 = y.f1 <;> by_cases h2 : x.f2 = y.f2 <;> by_cases h3 : x.f3 = y.f3 <;> by_cases h4 : x.f4 = y.f4 <;> by_cases h5 : x.f5 = y.f5 <;> by_cases h8 : x.f8 = y.f8 <;> simp [h0, h1, h2, h3, h4, h5, h8]
theorem before_val (x y : PcT) : spec_l4Before.f x.f0 x.f1 x.f2 x.f3 x.f4 x.f5 x.f6 x.f7 x.f8 x.f9 y.f0 y.f1 y.f2 y.f3 y.f4 y.f5 y.f6 y.f7 y.f8 y.f9 = some (decide (BeforeP x y)) := by
  unfold spec_l4Before.f
  by_cases h0 : x.f7 < y.f7
  · rw [if_pos h0, decide_eq_true (show BeforeP x y from Or.inl h0)]
  · rw [if_neg h0]
    by_cases h1 : x.f7 = y.f7
    · rw [if_pos h1]
      exact congrArg some (decide_eq_decide.mpr (by unfold BeforeP; omega))
    · rw [if_neg h1, decide_eq_false (show ¬ BeforeP x y by unfold BeforeP; omega)]
theorem agree_go (x y : PcT) (hx : PieceP x) (hy : PieceP y) (d : Nat) : ∀ t : Nat, x.f9.size - t = d → ∃ b : Bool, Ev (fun k => spec_l4Agrees.l0 k (t : Int) x.f0 x.f1 x.f2 x.f3 x.f4 x.f5 x.f6 x.f7 x.f8 x.f9 y.f0 y.f1 y.f2 y.f3 y.f4 y.f5 y.f6 y.f7 y.f8 y.f9) b ∧ (b = true ↔ AgreeFrom x y t) := by
  have tx := hx.told
  have ty := hy.told
  induction d with
  | zero =>
    intro t hd
    refine ⟨true, Ev.step (fun k => by rw [spec_l4Agrees.l0]) (Ev.ite_neg (by omega) (Ev.now _)), ⟨fun _ s h1 h2 => by omega, fun _ => rfl⟩⟩
  | succ d ih =>
    intro t hd
    obtain ⟨b, e, hb⟩ := ih (t + 1) (by omega)
    have hw : wrap64 ((t : Int) + 1) = ((t + 1 : Nat) : Int) := by rw [w64 (by omega) (by omega)]; omega
    have hk : wrap64 (wrap64 (x.f7 + (t : Int)) - y.f7) = x.f7 + t - y.f7 := by rw [w64 (x := x.f7 + (t : Int)) (by omega) (by omega), w64 (by omega) (by omega)]
    have next : Ev (fun k => spec_l4Agrees.j1 k (t : Int) false x.f0 x.f1 x.f2 x.f3 x.f4 x.f5 x.f6 x.f7 x.f8 x.f9 y.f0 y.f1 y.f2 y.f3 y.f4 y.f5 y.f6 y.f7 y.f8 y.f9) b := by
      refine Ev.step (fun k => by rw [spec_l4Agrees.j1]) (Ev.ite_neg (by decide) ?_)
      rw [hw]
      exact e
    by_cases hin : 0 ≤ x.f7 + t - y.f7 ∧ x.f7 + t - y.f7 < (y.f9.size : Int)
    · by_cases hbt : bt x.f9 (t : Int) = bt y.f9 (x.f7 + t - y.f7)
      · refine ⟨b, ?_, hb.trans ⟨fun H s h1 h2 h3 h4 => ?_, fun H s h1 h2 => H s (by omega) h2⟩⟩
        · refine Ev.step (fun k => by rw [spec_l4Agrees.l0]) ?_
          rw [hk]
          refine Ev.ite_pos (by omega) (Ev.ite_pos hin.1 (Ev.ite_pos hin.2 (Ev.ite_pos (by omega) (Ev.ite_pos hin.1 ?_))))
          rw [show (bt x.f9 (t : Int) != bt y.f9 (x.f7 + t - y.f7)) = false by simp [hbt]]
          exact next
        · by_cases es : s = t
          · subst es; exact hbt
          · exact H s (by omega) h2 h3 h4
      · refine ⟨false, ?_, ⟨fun h => absurd h (by decide), fun H => absurd (H t (Nat.le_refl _) (by omega) hin.1 hin.2) hbt⟩⟩
        refine Ev.step (fun k => by rw [spec_l4Agrees.l0]) ?_
        rw [hk]
        refine Ev.ite_pos (by omega) (Ev.ite_pos hin.1 (Ev.ite_pos hin.2 (Ev.ite_pos (by omega) (Ev.ite_pos hin.1 ?_))))
        rw [show (bt x.f9 (t : Int) != bt y.f9 (x.f7 + t - y.f7)) = true by simpa using hbt]
        exact Ev.step (fun k => by rw [spec_l4Agrees.j1]) (Ev.ite_pos rfl (Ev.now _))
    · refine ⟨b, ?_, hb.trans ⟨fun H s h1 h2 h3 h4 => ?_, fun H s h1 h2 => H s (by omega) h2⟩⟩
      · refine Ev.step (fun k => by rw [spec_l4Agrees.l0]) ?_
        rw [hk]
        refine Ev.ite_pos (by omega) (Ev.ite (fun h0 => Ev.ite_neg (fun h1 => hin ⟨h0, h1⟩) next) (fun _ => next))
      · by_cases es : s = t
        · subst es; exact absurd ⟨h3, h4⟩ hin
        · exact H s (by omega) h2 h3 h4
theorem pc_take (l : List PcT) (i j : Nat) (h : j < i) (hi : i ≤ l.length) : rd_T46 (l.take i) (j : Int) = pc l j := by
  simp [pc, rd_T46, List.getD_eq_getElem?_getD, h]
theorem specInner_go (l : List PcT) (hl : l.length ≤ 1048576) (i : Nat) (hi : i < l.length) (hp : ∀ j : Nat, j ≤ i → PieceP (pc l j)) (R : Prop) (b' : Bool) (e' : Ev (fun k => spec_GoodPile.l0 k l (l.length : Int) ((i + 1 : Nat) : Int) l) b') (hb' : b' = true ↔ R) (d : Nat) :
    ∀ j : Nat, i - j = d → j ≤ i → ∃ b : Bool, Ev (fun k => spec_GoodPile.l1 k l (l.length : Int) (i : Int) (l.take i) (i : Int) (j : Int) l (pc l i).f0 (pc l i).f1 (pc l i).f2 (pc l i).f3 (pc l i).f4 (pc l i).f5 (pc l i).f6 (pc l i).f7 (pc l i).f8 (pc l i).f9) b ∧ (b = true ↔ (∀ j' : Nat, j ≤ j' → j' < i → AgreeFrom (pc l i) (pc l j') 0) ∧ R) := by
  induction d with
  | zero =>
    intro j hd hj
    have hw : wrap64 ((i : Int) + 1) = ((i + 1 : Nat) : Int) := by rw [w64 (by omega) (by omega)]; omega
    refine ⟨b', Ev.step (fun k => by rw [spec_GoodPile.l1]) (Ev.ite_neg (by omega) (by rw [hw]; exact e')), hb'.trans ⟨fun h => ⟨fun j' h1 h2 => by omega, h⟩, fun h => h.2⟩⟩
  | succ d ih =>
    intro j hd hj
    have hw : wrap64 ((j : Int) + 1) = ((j + 1 : Nat) : Int) := by rw [w64 (by omega) (by omega)]; omega
    obtain ⟨b, e, hb⟩ := ih (j + 1) (by omega) (by omega)
    obtain ⟨c, ec, hc⟩ := agree_go (pc l i) (pc l j) (hp i (Nat.le_refl _)) (hp j hj) _ 0 rfl
    have hlen : (l.take i).length = i := by simp; omega
    have start : ∀ r, Ev (fun k => if c = true then spec_GoodPile.l1 k l (l.length : Int) (i : Int) (l.take i) (i : Int) (wrap64 ((j : Int) + 1)) l (pc l i).f0 (pc l i).f1 (pc l i).f2 (pc l i).f3 (pc l i).f4 (pc l i).f5 (pc l i).f6 (pc l i).f7 (pc l i).f8 (pc l i).f9 else some false) r →
        Ev (fun k => spec_GoodPile.l1 k l (l.length : Int) (i : Int) (l.take i) (i : Int) (j : Int) l (pc l i).f0 (pc l i).f1 (pc l i).f2 (pc l i).f3 (pc l i).f4 (pc l i).f5 (pc l i).f6 (pc l i).f7 (pc l i).f8 (pc l i).f9) r := by
      intro r h
      refine Ev.step (fun k => by rw [spec_GoodPile.l1]) (Ev.ite_pos (by omega) (Ev.ite_pos (by omega) (Ev.ite_pos (by rw [hlen]; omega) ?_)))
      rw [pc_take l i j (by omega) (by omega)]
      exact Ev.bind ec h
    cases c with
    | true =>
      refine ⟨b, start b (Ev.ite_pos rfl (by rw [hw]; exact e)), hb.trans ⟨fun h => ⟨fun j' h1 h2 => ?_, h.2⟩, fun h => ⟨fun j' h1 h2 => h.1 j' (by omega) h2, h.2⟩⟩⟩
      by_cases ej : j' = j
      · subst ej; exact hc.1 rfl
      · exact h.1 j' (by omega) h2
    | false => exact ⟨false, start false (Ev.ite_neg (by decide) (Ev.now _)), ⟨fun h => absurd h (by decide), fun h => absurd (hc.2 (h.1 j (Nat.le_refl _) (by omega))) (by decide)⟩⟩
theorem specPile_go (l : List PcT) (hl : l.length ≤ 1048576) (d : Nat) : ∀ i : Nat, l.length - i = d → i ≤ l.length → (∀ j : Nat, j < i → PieceP (pc l j)) → ∃ b : Bool, Ev (fun k => spec_GoodPile.l0 k l (l.length : Int) (i : Int) l) b ∧ (b = true ↔ PileFrom l i ∧ l.length ≤ 60) := by
  induction d with
  | zero =>
    intro i hd hi _
    refine ⟨decide ((l.length : Int) ≤ 60), Ev.step (fun k => by rw [spec_GoodPile.l0]) (Ev.ite_neg (by omega) (Ev.now _)), ?_⟩
    rw [decide_eq_true_iff]
    exact ⟨fun h => ⟨fun j h1 h2 => by omega, by omega⟩, fun h => by omega⟩
  | succ d ih =>
    intro i hd hi hp
    have hlt : i < l.length := by omega
    have hg := specGoodH (pc l i).f0 (pc l i).f1 (pc l i).f2 (pc l i).f3 (pc l i).f4 (pc l i).f5 (pc l i).f6 (pc l i).f7 (pc l i).f8 (pc l i).f9
    have bad : Ev (fun k => spec_GoodPile.j1 k (i : Int) l (l.length : Int) (i : Int) true l (pc l i).f0 (pc l i).f1 (pc l i).f2 (pc l i).f3 (pc l i).f4 (pc l i).f5 (pc l i).f6 (pc l i).f7 (pc l i).f8 (pc l i).f9) false := Ev.step (fun k => by rw [spec_GoodPile.j1]) (Ev.ite_pos rfl (Ev.now _))
    have out : ¬ HeadP l i → (false = true ↔ PileFrom l i ∧ l.length ≤ 60) := fun h => ⟨fun x => absurd x (by decide), fun x => absurd ((PileFrom.step hlt).1 x.1).1.1 h⟩
    by_cases h0 : GoodP (pc l i).f0 (pc l i).f1 (pc l i).f3 (pc l i).f4 (pc l i).f5 (pc l i).f6 (pc l i).f7 (pc l i).f8 (pc l i).f9.size
    case neg =>
      rw [decide_eq_false h0] at hg
      refine ⟨false, Ev.step (fun k => by rw [spec_GoodPile.l0]) (Ev.ite_pos (by omega) (Ev.ite_pos (by omega) (Ev.ite_pos (by omega) (Ev.bind hg ?_)))), out fun h => h0 h.1.1⟩
      exact Ev.ite_neg Bool.false_ne_true bad
    rw [decide_eq_true h0] at hg
    by_cases h8 : (pc l i).f8 = 0
    · refine ⟨false, Ev.step (fun k => by rw [spec_GoodPile.l0]) (Ev.ite_pos (by omega) (Ev.ite_pos (by omega) (Ev.ite_pos (by omega) (Ev.bind hg ?_)))), out fun h => h.1.2 h8⟩
      refine Ev.ite_pos rfl ?_
      exact Ev.ite_pos h8 bad
    have hx : PieceP (pc l i) := ⟨h0, h8⟩
    by_cases hs : SameP (pc l i) (pc l 0)
    case neg =>
      refine ⟨false, Ev.step (fun k => by rw [spec_GoodPile.l0]) (Ev.ite_pos (by omega) (Ev.ite_pos (by omega) (Ev.ite_pos (by omega) (Ev.bind hg ?_)))), out fun h => hs h.2.1⟩
      refine Ev.ite_pos rfl ?_
      refine Ev.ite_neg h8 ?_
      refine Ev.ite_pos (by omega) ?_
      refine Ev.opt_bind (same_val (pc l i) (pc l 0)) ?_
      rw [decide_eq_false hs]
      exact Ev.ite_neg (by decide) bad
    have hp' : ∀ j : Nat, j ≤ i → PieceP (pc l j) := fun j hj => by
      by_cases e : j = i
      · subst e; exact hx
      · exact hp j (by omega)
    obtain ⟨b', e', hb'⟩ := ih (i + 1) (by omega) (by omega) (fun j hj => hp' j (by omega))
    obtain ⟨b, e, hb⟩ := specInner_go l hl i hlt hp' _ b' e' hb' i 0 (by omega) (by omega)
    have go : Ev (fun k => spec_GoodPile.j1 k (i : Int) l (l.length : Int) (i : Int) false l (pc l i).f0 (pc l i).f1 (pc l i).f2 (pc l i).f3 (pc l i).f4 (pc l i).f5 (pc l i).f6 (pc l i).f7 (pc l i).f8 (pc l i).f9) b := by
      refine Ev.step (fun k => by rw [spec_GoodPile.j1]) (Ev.ite_neg (by decide) (Ev.ite_pos (by omega) (Ev.ite_pos (by omega) ?_)))
      simp only [Int.toNat_natCast, Option.bind_some]
      rw [show ((l.take i).length : Int) = (i : Int) by simp; omega]
      exact e
    by_cases hi0 : 0 < i
    · have hw : wrap64 ((i : Int) - 1) = ((i - 1 : Nat) : Int) := by rw [w64 (by omega) (by omega)]; omega
      by_cases hbf : BeforeP (pc l (i - 1)) (pc l i)
      · refine ⟨b, Ev.step (fun k => by rw [spec_GoodPile.l0]) (Ev.ite_pos (by omega) (Ev.ite_pos (by omega) (Ev.ite_pos (by omega) (Ev.bind hg ?_)))), hb.trans ?_⟩
        · refine Ev.ite_pos rfl ?_
          refine Ev.ite_neg h8 ?_
          refine Ev.ite_pos (by omega) ?_
          refine Ev.opt_bind (same_val (pc l i) (pc l 0)) ?_
          rw [decide_eq_true hs, hw]
          refine Ev.ite_pos rfl (Ev.ite_pos (by omega) (Ev.ite_pos (by omega) (Ev.ite_pos (by omega) (Ev.opt_bind (before_val (pc l (i - 1)) (pc l i)) ?_))))
          rw [decide_eq_true hbf]
          exact go
        · rw [PileFrom.step hlt]
          exact ⟨fun h => ⟨⟨⟨⟨hx, hs, fun _ => hbf⟩, fun j hj => h.1 j (Nat.zero_le _) hj⟩, h.2.1⟩, h.2.2⟩, fun h => ⟨fun j _ hj => h.1.1.2 j hj, h.1.2, h.2⟩⟩
      · refine ⟨false, Ev.step (fun k => by rw [spec_GoodPile.l0]) (Ev.ite_pos (by omega) (Ev.ite_pos (by omega) (Ev.ite_pos (by omega) (Ev.bind hg ?_)))), out fun h => hbf (h.2.2 hi0)⟩
        refine Ev.ite_pos rfl ?_
        refine Ev.ite_neg h8 ?_
        refine Ev.ite_pos (by omega) ?_
        refine Ev.opt_bind (same_val (pc l i) (pc l 0)) ?_
        rw [decide_eq_true hs, hw]
        refine Ev.ite_pos rfl (Ev.ite_pos (by omega) (Ev.ite_pos (by omega) (Ev.ite_pos (by omega) (Ev.opt_bind (before_val (pc l (i - 1)) (pc l i)) ?_))))
        rw [decide_eq_false hbf]
        exact bad
    · refine ⟨b, Ev.step (fun k => by rw [spec_GoodPile.l0]) (Ev.ite_pos (by omega) (Ev.ite_pos (by omega) (Ev.ite_pos (by omega) (Ev.bind hg ?_)))), hb.trans ?_⟩
      · refine Ev.ite_pos rfl ?_
        refine Ev.ite_neg h8 ?_
        refine Ev.ite_pos (by omega) ?_
        refine Ev.opt_bind (same_val (pc l i) (pc l 0)) ?_
        rw [decide_eq_true hs]
        exact Ev.ite_pos rfl (Ev.ite_neg (by omega) go)
      · rw [PileFrom.step hlt]
        exact ⟨fun h => ⟨⟨⟨⟨hx, hs, fun h0 => absurd h0 hi0⟩, fun j hj => h.1 j (Nat.zero_le _) hj⟩, h.2.1⟩, h.2.2⟩, fun h => ⟨fun j _ hj => h.1.1.2 j hj, h.1.2, h.2⟩⟩
theorem specPile (l : List PcT) (hl : l.length ≤ 1048576) : ∃ b : Bool, Ev (fun k => spec_GoodPile.f k l) b ∧ (b = true ↔ PileFrom l 0 ∧ l.length ≤ 60) := by
  simpa [spec_GoodPile.f] using specPile_go l hl _ 0 rfl (by omega) (fun j hj => by omega)
def Rep (l : List PcT) (i : Nat) (kn : Int → Option Int) : Prop :=
  (∀ a c, kn a = some c → ∃ j : Nat, j < i ∧ ∃ t : Nat, t < (pc l j).f9.size ∧ (pc l j).f7 + t = a ∧ bt (pc l j).f9 (t : Int) = c) ∧
    ∀ j : Nat, j < i → ∀ t : Nat, t < (pc l j).f9.size → kn ((pc l j).f7 + t) = some (bt (pc l j).f9 (t : Int))
theorem gpIn_good (x : PcT) (hx : PieceP x) (d : Nat) : ∀ (j : Nat) (kn : Int → Option Int), j + d = x.f9.size → (∀ t : Nat, j ≤ t → t < x.f9.size → (kn (x.f7 + t)).getD (bt x.f9 (t : Int)) = bt x.f9 (t : Int)) →
    ∃ kn', gpIn x d (j : Int) kn = some kn' ∧ (∀ t : Nat, j ≤ t → t < x.f9.size → kn' (x.f7 + t) = some (bt x.f9 (t : Int))) ∧ ∀ a, (¬ ∃ t : Nat, j ≤ t ∧ t < x.f9.size ∧ a = x.f7 + t) → kn' a = kn a := by
  have tx := hx.told
  induction d with
  | zero => exact fun j kn hd _ => ⟨kn, rfl, fun t h1 h2 => by omega, fun a _ => rfl⟩
  | succ d ih =>
    intro j kn hd h
    have hw : wrap64 (x.f7 + (j : Int)) = x.f7 + j := w64 (by omega) (by omega)
    obtain ⟨kn', e, h1, h2⟩ := ih (j + 1) (fun y => if y = x.f7 + j then some (bt x.f9 (j : Int)) else kn y) (by omega) (fun t h3 h4 => by
      rw [if_neg (by omega)]
      exact h t (by omega) h4)
    refine ⟨kn', ?_, fun t h3 h4 => ?_, fun a ha => ?_⟩
    · rw [gpIn, hw, if_pos (h j (Nat.le_refl _) (by omega))]
      exact e
    · by_cases et : t = j
      · subst et
        rw [h2 _ (by rintro ⟨s, h5, h6, h7⟩; omega), if_pos rfl]
      · exact h1 t (by omega) h4
    · rw [h2 a (fun ⟨t, h5, h6, h7⟩ => ha ⟨t, by omega, h6, h7⟩), if_neg (fun e => ha ⟨j, Nat.le_refl _, by omega, e⟩)]
theorem gpIn_bad (x : PcT) (hx : PieceP x) (d : Nat) : ∀ (j : Nat) (kn : Int → Option Int), j + d = x.f9.size → (∃ t : Nat, j ≤ t ∧ t < x.f9.size ∧ (kn (x.f7 + t)).getD (bt x.f9 (t : Int)) ≠ bt x.f9 (t : Int)) → gpIn x d (j : Int) kn = none := by
  have tx := hx.told
  induction d with
  | zero => rintro j kn hd ⟨t, h1, h2, _⟩; omega
  | succ d ih =>
    rintro j kn hd ⟨t, h1, h2, h3⟩
    have hw : wrap64 (x.f7 + (j : Int)) = x.f7 + j := w64 (by omega) (by omega)
    rw [gpIn, hw]
    by_cases hj : (kn (x.f7 + j)).getD (bt x.f9 (j : Int)) = bt x.f9 (j : Int)
    · rw [if_pos hj]
      have hne : t ≠ j := by rintro rfl; exact h3 hj
      refine ih (j + 1) _ (by omega) ⟨t, by omega, h2, ?_⟩
      rw [if_neg (by omega)]
      exact h3
    · rw [if_neg hj]
theorem rep_agree {l : List PcT} {i : Nat} {kn : Int → Option Int} (h : Rep l i kn) (x : PcT) : (∀ t : Nat, t < x.f9.size → (kn (x.f7 + t)).getD (bt x.f9 (t : Int)) = bt x.f9 (t : Int)) ↔ ∀ j : Nat, j < i → AgreeFrom x (pc l j) 0 := by
  constructor
  · intro H j hj t _ ht h0 h1
    obtain ⟨k, hk⟩ := Int.eq_ofNat_of_zero_le h0
    have a := h.2 j hj k (by omega)
    have b := H t ht
    rw [show x.f7 + (t : Int) = (pc l j).f7 + k by omega, a] at b
    rw [hk]
    exact b.symm
  · intro H t ht
    cases hk : kn (x.f7 + t) with
    | none => rfl
    | some c =>
      obtain ⟨j, hj, s, hs, e1, e2⟩ := h.1 _ _ hk
      have := H j hj t (Nat.zero_le _) ht (by omega) (by omega)
      rw [this, show x.f7 + (t : Int) - (pc l j).f7 = s by omega, e2]
      rfl
theorem rep_next {l : List PcT} {i : Nat} {kn kn' : Int → Option Int} (h : Rep l i kn) (ha : ∀ j : Nat, j < i → AgreeFrom (pc l i) (pc l j) 0) (h1 : ∀ t : Nat, 0 ≤ t → t < (pc l i).f9.size → kn' ((pc l i).f7 + t) = some (bt (pc l i).f9 (t : Int)))
    (h2 : ∀ a, (¬ ∃ t : Nat, 0 ≤ t ∧ t < (pc l i).f9.size ∧ a = (pc l i).f7 + t) → kn' a = kn a) : Rep l (i + 1) kn' := by
  refine ⟨fun a c hc => ?_, fun j hj t ht => ?_⟩
  · by_cases hin : ∃ t : Nat, 0 ≤ t ∧ t < (pc l i).f9.size ∧ a = (pc l i).f7 + t
    · obtain ⟨t, _, ht, rfl⟩ := hin
      rw [h1 t (Nat.zero_le _) ht] at hc
      exact ⟨i, by omega, t, ht, rfl, Option.some.inj hc⟩
    · rw [h2 a hin] at hc
      obtain ⟨j, hj, r⟩ := h.1 a c hc
      exact ⟨j, by omega, r⟩
  · by_cases e : j = i
    · subst e; exact h1 t (Nat.zero_le _) ht
    · by_cases hin : ∃ s : Nat, 0 ≤ s ∧ s < (pc l i).f9.size ∧ (pc l j).f7 + t = (pc l i).f7 + s
      · obtain ⟨s, _, hs, e2⟩ := hin
        rw [e2, h1 s (Nat.zero_le _) hs]
        have := ha j (by omega) s (Nat.zero_le _) hs (by omega) (by omega)
        rw [this, show (pc l i).f7 + (s : Int) - (pc l j).f7 = t by omega]
      · rw [h2 _ hin]
        exact h.2 j (by omega) t ht
theorem piece_val (x : PcT) (h : -9223372036854775808 ≤ x.f8 ∧ x.f8 ≤ 9223372036854775807) : ∃ b : Bool, Ev (fun k => impl_isPiece.f k x.f0 x.f1 x.f2 x.f3 x.f4 x.f5 x.f6 x.f7 x.f8 x.f9) b ∧ (b = true ↔ PieceP x) := by
  have hg := implGood x.f0 x.f1 x.f2 x.f3 x.f4 x.f5 x.f6 x.f7 x.f8 x.f9 h
  by_cases h0 : GoodP x.f0 x.f1 x.f3 x.f4 x.f5 x.f6 x.f7 x.f8 x.f9.size
  · rw [decide_eq_true h0] at hg
    refine ⟨decide (x.f8 > 0), ?_, ?_⟩
    · simp only [impl_isPiece.f]
      exact Ev.bind hg (Ev.ite_pos rfl (Ev.now _))
    · rw [decide_eq_true_iff]
      refine ⟨fun h1 => ⟨h0, by omega⟩, fun h1 => ?_⟩
      have := PieceP.told h1
      omega
  · rw [decide_eq_false h0] at hg
    refine ⟨false, ?_, ⟨fun h1 => absurd h1 (by decide), fun h1 => absurd h1.1 h0⟩⟩
    simp only [impl_isPiece.f]
    exact Ev.bind hg (Ev.ite_neg (by decide) (Ev.now _))
theorem order_val (p x : PcT) (hp : PieceP p) (hx : PieceP x) : ∃ n : Int, impl_order.f p.f0 p.f1 p.f2 p.f3 p.f4 p.f5 p.f6 p.f7 p.f8 p.f9 x.f0 x.f1 x.f2 x.f3 x.f4 x.f5 x.f6 x.f7 x.f8 x.f9 = some n ∧ (n ≥ 0 ↔ ¬ BeforeP p x) := by
  have tp := hp.told
  have tx := hx.told
  unfold impl_order.f BeforeP
  by_cases h : p.f7 = x.f7
  · rw [if_pos h]
    refine ⟨_, rfl, ?_⟩
    rw [w64 (by omega) (by omega)]
    omega
  · rw [if_neg h]
    refine ⟨_, rfl, ?_⟩
    rw [w64 (by omega) (by omega)]
    omega
theorem implPile_go (l : List PcT) (hl : l.length ≤ 60) (h8 : ∀ j : Nat, j < l.length → -9223372036854775808 ≤ (pc l j).f8 ∧ (pc l j).f8 ≤ 9223372036854775807) (d : Nat) : ∀ (i : Nat) (kn : Int → Option Int), l.length - i = d → i ≤ l.length → (∀ j : Nat, j < i → PieceP (pc l j)) → Rep l i kn →
    ∃ b : Bool, Ev (fun k => impl_GoodPile.l0 k l (l.length : Int) (i : Int) l kn) b ∧ (b = true ↔ PileFrom l i) := by
  induction d with
  | zero =>
    intro i kn hd hi _ _
    exact ⟨true, Ev.step (fun k => by rw [impl_GoodPile.l0]) (Ev.ite_neg (by omega) (Ev.now _)), ⟨fun _ j h1 h2 => by omega, fun _ => rfl⟩⟩
  | succ d ih =>
    intro i kn hd hi hp hr
    have hlt : i < l.length := by omega
    obtain ⟨c, ec, hc⟩ := piece_val (pc l i) (h8 i hlt)
    have bad : Ev (fun k => impl_GoodPile.j1 k l (l.length : Int) (i : Int) true l kn) false := Ev.step (fun k => by rw [impl_GoodPile.j1]) (Ev.ite_pos rfl (Ev.now _))
    have out : ¬ HeadP l i → (false = true ↔ PileFrom l i) := fun h => ⟨fun x => absurd x (by decide), fun x => absurd ((PileFrom.step hlt).1 x).1.1 h⟩
    cases c with
    | false =>
      refine ⟨false, Ev.step (fun k => by rw [impl_GoodPile.l0]) (Ev.ite_pos (by omega) (Ev.ite_pos (by omega) (Ev.ite_pos (by omega) (Ev.bind ec ?_)))), out fun h => absurd (hc.2 h.1) (by decide)⟩
      exact Ev.ite_neg Bool.false_ne_true bad
    | true =>
      have hx : PieceP (pc l i) := hc.1 rfl
      have tx := hx.told
      have hsame : (!((pc l i).f0 == (pc l 0).f0) || (!((pc l i).f1 == (pc l 0).f1) || (!((pc l i).f2 == (pc l 0).f2) || (!((pc l i).f3 == (pc l 0).f3) || (!((pc l i).f4 == (pc l 0).f4) || (!((pc l i).f5 == (pc l 0).f5) || (!((0 : Int) == 0) || (!((0 : Int) == 0) || (!((pc l i).f8 == (pc l 0).f8) || (!((⟨#[]⟩ : ByteArray).toList == (⟨#[]⟩ : ByteArray).toList))))))))))) = !decide (SameP (pc l i) (pc l 0)) := by
        unfold SameP
        by_cases h0 : (pc l i).f0 = (pc l 0).f0 <;> by_cases h1 : (pc l i).f1 = (pc l 0).f1 <;> by_cases h2 : (pc l i).f2 = (pc l 0).f2 <;> by_cases h3 : (pc l i).f3 = (pc l 0).f3 <;> by_cases h4 : (pc l i).f4 = (pc l 0).f4 <;> by_cases h5 : (pc l i).f5 = (pc l 0).f5 <;> by_cases h6 : (pc l i).f8 = (pc l 0).f8 <;> simp [h0, h1, h2, h3, h4, h5, h6]
      have start : ∀ r, Ev (fun k => if (!decide (SameP (pc l i) (pc l 0))) = true then impl_GoodPile.j1 k l (l.length : Int) (i : Int) true l kn else (if (i : Int) > 0 then (if 0 ≤ (wrap64 ((i : Int) - 1)) then (if (wrap64 ((i : Int) - 1)) < (l.length : Int) then ((impl_order.f (rd_T46 l (wrap64 ((i : Int) - 1))).f0 (rd_T46 l (wrap64 ((i : Int) - 1))).f1 (rd_T46 l (wrap64 ((i : Int) - 1))).f2 (rd_T46 l (wrap64 ((i : Int) - 1))).f3 (rd_T46 l (wrap64 ((i : Int) - 1))).f4 (rd_T46 l (wrap64 ((i : Int) - 1))).f5 (rd_T46 l (wrap64 ((i : Int) - 1))).f6 (rd_T46 l (wrap64 ((i : Int) - 1))).f7 (rd_T46 l (wrap64 ((i : Int) - 1))).f8 (rd_T46 l (wrap64 ((i : Int) - 1))).f9 (pc l i).f0 (pc l i).f1 (pc l i).f2 (pc l i).f3 (pc l i).f4 (pc l i).f5 (pc l i).f6 (pc l i).f7 (pc l i).f8 (pc l i).f9).bind fun n => impl_GoodPile.j1 k l (l.length : Int) (i : Int) (decide (n ≥ 0)) l kn) else none) else none) else impl_GoodPile.j1 k l (l.length : Int) (i : Int) false l kn)) r →
          Ev (fun k => impl_GoodPile.l0 k l (l.length : Int) (i : Int) l kn) r := by
        intro r h
        refine Ev.step (fun k => by rw [impl_GoodPile.l0]) (Ev.ite_pos (by omega) (Ev.ite_pos (by omega) (Ev.ite_pos (by omega) (Ev.bind ec (Ev.ite_pos rfl ?_)))))
        simp only [impl_of.f, Option.bind_some]
        refine Ev.ite_pos (by omega) ?_
        rw [← hsame] at h
        exact h
      by_cases hs : SameP (pc l i) (pc l 0)
      case neg => exact ⟨false, start _ (Ev.ite_pos (by rw [decide_eq_false hs]; rfl) bad), out fun h => hs h.2.1⟩
      have hp' : ∀ j : Nat, j ≤ i → PieceP (pc l j) := fun j hj => by
        by_cases e : j = i
        · subst e; exact hx
        · exact hp j (by omega)
      have go : ∃ b : Bool, Ev (fun k => impl_GoodPile.j1 k l (l.length : Int) (i : Int) false l kn) b ∧ (b = true ↔ (∀ j : Nat, j < i → AgreeFrom (pc l i) (pc l j) 0) ∧ PileFrom l (i + 1)) := by
        have hw : wrap64 ((i : Int) + 1) = ((i + 1 : Nat) : Int) := by rw [w64 (by omega) (by omega)]; omega
        by_cases ha : ∀ t : Nat, t < (pc l i).f9.size → (kn ((pc l i).f7 + t)).getD (bt (pc l i).f9 (t : Int)) = bt (pc l i).f9 (t : Int)
        · obtain ⟨kn', e, k1, k2⟩ := gpIn_good (pc l i) hx (pc l i).f9.size 0 kn (by omega) (fun t _ ht => ha t ht)
          have ha' := (rep_agree hr (pc l i)).1 ha
          obtain ⟨b, eb, hb⟩ := ih (i + 1) kn' (by omega) (by omega) (fun j hj => hp' j (by omega)) (rep_next hr ha' k1 k2)
          refine ⟨b, Ev.step (fun k => by rw [impl_GoodPile.j1]) (Ev.ite_neg (by decide) (Ev.ite_pos tx.2.2.1 ?_)), hb.trans ⟨fun h => ⟨ha', h⟩, fun h => h.2⟩⟩
          have e' : gpIn (rd_T46 l (i : Int)) (rd_T46 l (i : Int)).f9.size 0 kn = some kn' := e
          rw [e', hw]
          exact Ev.ite_pos rfl eb
        · have hb : ∃ t : Nat, 0 ≤ t ∧ t < (pc l i).f9.size ∧ (kn ((pc l i).f7 + t)).getD (bt (pc l i).f9 (t : Int)) ≠ bt (pc l i).f9 (t : Int) := by
            exact Classical.byContradiction fun hn => ha fun t ht => Classical.byContradiction fun h => hn ⟨t, Nat.zero_le _, ht, h⟩
          have e := gpIn_bad (pc l i) hx (pc l i).f9.size 0 kn (by omega) hb
          refine ⟨false, Ev.step (fun k => by rw [impl_GoodPile.j1]) (Ev.ite_neg (by decide) (Ev.ite_pos tx.2.2.1 ?_)), ⟨fun h => absurd h (by decide), fun h => absurd ((rep_agree hr (pc l i)).2 h.1) ha⟩⟩
          have e' : gpIn (rd_T46 l (i : Int)) (rd_T46 l (i : Int)).f9.size 0 kn = none := e
          rw [e']
          exact Ev.ite_neg (by decide) (Ev.now _)
      obtain ⟨b, eb, hb⟩ := go
      by_cases hi0 : 0 < i
      · have hw : wrap64 ((i : Int) - 1) = ((i - 1 : Nat) : Int) := by rw [w64 (by omega) (by omega)]; omega
        obtain ⟨n, en, hn⟩ := order_val (pc l (i - 1)) (pc l i) (hp' (i - 1) (by omega)) hx
        by_cases hbf : BeforeP (pc l (i - 1)) (pc l i)
        · refine ⟨b, start b (Ev.ite_neg (by rw [decide_eq_true hs]; decide) ?_), hb.trans ?_⟩
          · rw [hw]
            refine Ev.ite_pos (by omega) (Ev.ite_pos (by omega) (Ev.ite_pos (by omega) (Ev.opt_bind en ?_)))
            rw [decide_eq_false (fun h => hn.1 h hbf)]
            exact eb
          · rw [PileFrom.step hlt]
            exact ⟨fun h => ⟨⟨⟨hx, hs, fun _ => hbf⟩, h.1⟩, h.2⟩, fun h => ⟨h.1.2, h.2⟩⟩
        · refine ⟨false, start _ (Ev.ite_neg (by rw [decide_eq_true hs]; decide) ?_), out fun h => hbf (h.2.2 hi0)⟩
          rw [hw]
          refine Ev.ite_pos (by omega) (Ev.ite_pos (by omega) (Ev.ite_pos (by omega) (Ev.opt_bind en ?_)))
          rw [decide_eq_true (hn.2 hbf)]
          exact bad
      · refine ⟨b, start b (Ev.ite_neg (by rw [decide_eq_true hs]; decide) (Ev.ite_neg (by omega) eb)), hb.trans ?_⟩
        rw [PileFrom.step hlt]
        exact ⟨fun h => ⟨⟨⟨hx, hs, fun h0 => absurd h0 hi0⟩, h.1⟩, h.2⟩, fun h => ⟨h.1.2, h.2⟩⟩
theorem implPile (l : List PcT) (h8 : ∀ j : Nat, j < l.length → -9223372036854775808 ≤ (pc l j).f8 ∧ (pc l j).f8 ≤ 9223372036854775807) : ∃ b : Bool, Ev (fun k => impl_GoodPile.f k l) b ∧ (b = true ↔ PileFrom l 0 ∧ l.length ≤ 60) := by
  simp only [impl_GoodPile.f]
  by_cases h : (l.length : Int) > 60
  · exact ⟨false, Ev.ite_pos h (Ev.now _), ⟨fun x => absurd x (by decide), fun x => by omega⟩⟩
  · obtain ⟨b, e, hb⟩ := implPile_go l (by omega) h8 _ 0 (fun _ => none) rfl (by omega) (fun j hj => by omega) ⟨fun a c h => by simp at h, fun j hj => by omega⟩
    exact ⟨b, Ev.ite_neg h e, hb.trans ⟨fun h' => ⟨h', by omega⟩, fun h' => h'.1⟩⟩
theorem eqBundle_self (a0 a1 : Int) (a2 : Bool) (a3 a4 a5 a6 a7 a8 : Int) (a9 : ByteArray) : laws_eqBundle.f a0 a1 a2 a3 a4 a5 a6 a7 a8 a9 a0 a1 a2 a3 a4 a5 a6 a7 a8 a9 = some true := by
  simp [laws_eqBundle.f]
theorem rdBL_eq (l : List S42) (i : Nat) (h : i < l.length) : rd_T42 l (i : Int) = l[i] := by
  simp [rd_T42, List.getD_eq_getElem?_getD, List.getElem?_eq_getElem h]
def bundleOf (x : S42) : S46 := ⟨x.f0, x.f1, x.f2, x.f3, x.f4, x.f5, x.f6, x.f7, x.f8, x.f9⟩
theorem szBundleS_go (l : List S42) (hl : l.length ≤ 1048576) (hs : ∀ i : Nat, i < l.length → (rd_T42 l (i : Int)).f9.size ≤ maxLen) (d : Nat) : ∀ (i : Nat) (left : Int), i ≤ l.length → l.length - i = d → 0 ≤ left → left ≤ 1048576 →
    ∃ r, Ev (fun k => laws_szBundleS.l0 k l left (i : Int)) r ∧ (0 ≤ r → ∀ j : Nat, i ≤ j → j < l.length → (rd_T42 l (j : Int)).f9.size ≤ 1048576) := by
  induction d with
  | zero =>
    intro i left h0 hd h1 h2
    refine ⟨left, ?_, fun _ j h3 h4 => by omega⟩
    refine Ev.step (fun k => by rw [laws_szBundleS.l0]) ?_
    exact Ev.ite_neg (by omega) (Ev.now _)
  | succ d ih =>
    intro i left h0 hd h1 h2
    have hi : i < l.length := by omega
    have hw : wrap64 ((i : Int) + 1) = ((i + 1 : Nat) : Int) := by rw [w64 (by omega) (by omega)]; omega
    have hz := hs i hi
    unfold maxLen at hz
    have hw2 : wrap64 (left - ((rd_T42 l (i : Int)).f9.size : Int)) = left - ((rd_T42 l (i : Int)).f9.size : Int) := w64 (by omega) (by omega)
    by_cases hn : left - ((rd_T42 l (i : Int)).f9.size : Int) < 0
    · refine ⟨-1, ?_, fun h => by omega⟩
      refine Ev.step (fun k => by rw [laws_szBundleS.l0]) ?_
      refine Ev.ite_pos (by omega) (Ev.ite_pos (by omega) ?_)
      simp only [laws_szBundle.f, hw2, if_pos hn, Option.bind_some]
      exact Ev.ite_pos (by omega) (Ev.now _)
    · obtain ⟨r, a, b⟩ := ih (i + 1) (left - ((rd_T42 l (i : Int)).f9.size : Int)) (by omega) (by omega) (by omega) (by omega)
      refine ⟨r, ?_, fun h j h3 h4 => ?_⟩
      · refine Ev.step (fun k => by rw [laws_szBundleS.l0]) ?_
        refine Ev.ite_pos (by omega) (Ev.ite_pos (by omega) ?_)
        simp only [laws_szBundle.f, hw2, if_neg hn, Option.bind_some]
        rw [hw]
        exact a
      · rcases Nat.lt_or_ge i j with h5 | h5
        · exact b h j h5 h4
        · obtain rfl : j = i := by omega
          omega
theorem szBundleS_val (l : List S42) (hl : l.length ≤ maxLen) (hs : ∀ i : Nat, i < l.length → (rd_T42 l (i : Int)).f9.size ≤ maxLen) :
    ∃ r, Ev (fun k => laws_szBundleS.f k l 1048576) r ∧ (0 ≤ r → l.length ≤ 1048576 ∧ ∀ j : Nat, j < l.length → (rd_T42 l (j : Int)).f9.size ≤ 1048576) := by
  unfold maxLen at hl
  have hw : wrap64 (1048576 - (l.length : Int)) = 1048576 - (l.length : Int) := w64 (by omega) (by omega)
  simp only [laws_szBundleS.f, hw]
  by_cases h : 1048576 - (l.length : Int) < 0
  · exact ⟨-1, Ev.ite_pos h (Ev.now _), fun h => by omega⟩
  · obtain ⟨r, a, b⟩ := szBundleS_go l (by omega) hs l.length 0 (1048576 - (l.length : Int)) (by omega) (by omega) (by omega) (by omega)
    exact ⟨r, Ev.ite_neg h a, fun h' => ⟨by omega, fun j hj => b h' j (by omega) hj⟩⟩
theorem toBundleS_go (l : List S42) (hl : l.length ≤ 1048576) (d : Nat) : ∀ i : Nat, i ≤ l.length → l.length - i = d → Ev (fun k => laws_toBundleS.l0 k l ((l.map bundleOf).take i ++ List.replicate ((l.map bundleOf).length - i) z46) (i : Int)) (l.map bundleOf) := by
  induction d with
  | zero =>
    intro i h0 hd
    obtain rfl : i = l.length := by omega
    refine Ev.step (fun k => by rw [laws_toBundleS.l0]) ?_
    exact Ev.ite_neg (by omega) (Ev.now' (by rw [List.length_map, Nat.sub_self, List.replicate_zero, List.append_nil, List.take_of_length_le (by simp)]))
  | succ d ih =>
    intro i h0 hd
    have hlt : i < l.length := by omega
    have hlt2 : i < (l.map bundleOf).length := by simpa using hlt
    have hw : wrap64 ((i : Int) + 1) = ((i + 1 : Nat) : Int) := by rw [w64 (by omega) (by omega)]; omega
    have hlen : ((l.map bundleOf).take i ++ List.replicate ((l.map bundleOf).length - i) z46).length = l.length := by simp; omega
    have a := ih (i + 1) (by omega) (by omega)
    rw [← fill_step (l.map bundleOf) z46 i hlt2] at a
    refine Ev.step (fun k => by rw [laws_toBundleS.l0]) ?_
    refine Ev.ite_pos (by omega) (Ev.ite_pos (by omega) ?_)
    simp only [laws_toBundle.f, Option.bind_some, hw, Int.toNat_natCast, rdBL_eq l i hlt]
    refine Ev.ite_pos (by rw [hlen]; omega) ?_
    have e : (l.map bundleOf)[i] = (⟨l[i].f0, l[i].f1, l[i].f2, l[i].f3, l[i].f4, l[i].f5, l[i].f6, l[i].f7, l[i].f8, l[i].f9⟩ : S46) := by simp [bundleOf]
    rw [e] at a
    exact a
theorem toBundleS_val (l : List S42) (hl : l.length ≤ 1048576) : Ev (fun k => laws_toBundleS.f k l) (l.map bundleOf) := by
  have := toBundleS_go l hl l.length 0 (by omega) (by omega)
  simp only [laws_toBundleS.f, Int.toNat_natCast]
  refine Ev.ite_pos (by omega) (Ev.ite_pos (by omega) ?_)
  simpa using this
theorem eqBundleS_go (l : List S46) (hl : l.length ≤ 1048576) (d : Nat) : ∀ i : Nat, l.length - i = d → Ev (fun k => laws_eqBundleS.l0 k l l (i : Int)) true := by
  induction d with
  | zero =>
    intro i hd
    refine Ev.step (fun k => by rw [laws_eqBundleS.l0]) ?_
    exact Ev.ite_neg (by omega) (Ev.now _)
  | succ d ih =>
    intro i hd
    have hw : wrap64 ((i : Int) + 1) = ((i + 1 : Nat) : Int) := by rw [w64 (by omega) (by omega)]; omega
    refine Ev.step (fun k => by rw [laws_eqBundleS.l0]) ?_
    refine Ev.ite_pos (by omega) (Ev.ite_pos (by omega) (Ev.ite_pos (by omega) ?_))
    simp only [eqBundle_self, if_true, Option.bind_some, hw]
    exact ih (i + 1) (by omega)
theorem eqBundleS_self (l : List S46) (hl : l.length ≤ 1048576) : Ev (fun k => laws_eqBundleS.f k l l) true := by
  simp only [laws_eqBundleS.f, if_true]
  exact (eqBundleS_go l hl l.length 0 (by omega))
theorem pc_map (l : List S42) (h : ∀ x ∈ l, ok42 x) : ∀ j : Nat, j < (l.map bundleOf).length → -9223372036854775808 ≤ (pc (l.map bundleOf) j).f8 ∧ (pc (l.map bundleOf) j).f8 ≤ 9223372036854775807 := by
  intro j hj
  have hj' : j < l.length := by simpa using hj
  have e : pc (l.map bundleOf) j = bundleOf l[j] := by simp [pc, rd_T46, List.getD_eq_getElem?_getD, hj']
  rw [e]
  have := h l[j] (List.getElem_mem hj')
  unfold ok42 at this
  exact wf_i64 this.2.2.2.2.2.2.2.2.1
theorem bundle_sizes (l : List S42) (h : ∀ x ∈ l, ok42 x) : ∀ i : Nat, i < l.length → (rd_T42 l (i : Int)).f9.size ≤ maxLen := by
  intro i hi
  rw [rdBL_eq l i hi]
  have := h l[i] (List.getElem_mem hi)
  unfold ok42 at this
  exact this.2.2.2.2.2.2.2.2.2
theorem pile_both (l : List PcT) (hl : l.length ≤ 1048576) (h8 : ∀ j : Nat, j < l.length → -9223372036854775808 ≤ (pc l j).f8 ∧ (pc l j).f8 ≤ 9223372036854775807) :
    ∃ b : Bool, Ev (fun k => spec_GoodPile.f k l) b ∧ Ev (fun k => impl_GoodPile.f k l) b ∧ (b = true ↔ PileFrom l 0 ∧ l.length ≤ 60) := by
  obtain ⟨b, e, h⟩ := specPile l hl
  obtain ⟨c, f, g⟩ := implPile l h8
  have : b = c := by
    cases b <;> cases c <;> first | rfl | exact absurd (h.2 (g.1 rfl)) (by decide) | exact absurd (g.2 (h.1 rfl)) (by decide)
  subst this
  exact ⟨b, e, f, h⟩
theorem addAt (l : List PcT) (b : PcT) : ∀ d i : Nat, i + d = l.length → ∃ m, i ≤ m ∧ m ≤ l.length ∧ (∀ j, i ≤ j → j < m → BeforeP (pc l j) b) ∧ (m < l.length → ¬ BeforeP (pc l m) b) := by
  intro d
  induction d with
  | zero => exact fun i h => ⟨i, Nat.le_refl _, by omega, fun j h1 h2 => by omega, fun h3 => by omega⟩
  | succ d ih =>
    intro i h
    by_cases hb : BeforeP (pc l i) b
    · obtain ⟨m, h1, h2, h3, h4⟩ := ih (i + 1) (by omega)
      refine ⟨m, by omega, h2, fun j h5 h6 => ?_, h4⟩
      by_cases e : j = i
      · subst e; exact hb
      · exact h3 j (by omega) h6
    · exact ⟨i, Nat.le_refl _, by omega, fun j h1 h2 => by omega, fun _ => hb⟩
def addIn (l : List PcT) (m : Nat) (b : PcT) : List PcT := l.take m ++ [b] ++ l.drop m
theorem addIn_len (l : List PcT) (m : Nat) (b : PcT) (h : m ≤ l.length) : (addIn l m b).length = l.length + 1 := by simp [addIn]; omega
theorem addIn_mem {l : List PcT} {m : Nat} {b x : PcT} (h : x ∈ addIn l m b) : x ∈ l ∨ x = b := by
  simp only [addIn, List.mem_append, List.mem_singleton] at h
  rcases h with (h | h) | h
  · exact .inl (List.mem_of_mem_take h)
  · exact .inr h
  · exact .inl (List.mem_of_mem_drop h)
theorem pc_get (l : List PcT) (j : Nat) (h : j < l.length) : pc l j = l[j] := by
  simp [pc, rd_T46, List.getD_eq_getElem?_getD, h]
theorem addIn_at (l : List PcT) (m : Nat) (b : PcT) (h : m ≤ l.length) : pc (addIn l m b) m = b := by
  rw [pc_get _ _ (by rw [addIn_len l m b h]; omega)]
  simp only [addIn]
  rw [List.getElem_append_left (by simp; omega), List.getElem_append_right (by simp; omega)]
  simp
theorem addIn_next (l : List PcT) (m : Nat) (b : PcT) (h : m < l.length) : pc (addIn l m b) (m + 1) = pc l m := by
  rw [pc_get _ _ (by rw [addIn_len l m b (by omega)]; omega), pc_get _ _ h]
  simp only [addIn]
  rw [List.getElem_append_right (by simp; omega), List.getElem_drop]
  congr 1
  simp
  omega
def Twin (x b : PcT) : Prop := SameP x b ∧ x.f7 = b.f7 ∧ x.f9 = b.f9
theorem str_toList (s t : ByteArray) : s.toList = t.toList ↔ s = t :=
  ⟨fun h => ByteArray.ext (Array.toList_inj.mp (by rwa [ByteArray.toList_eq, ByteArray.toList_eq] at h)), fun h => by rw [h]⟩
theorem specAt_go (l : List PcT) (b : PcT) (m : Nat) (hl : l.length ≤ 60) (hm : m ≤ l.length) (hb : ∀ j, j < m → BeforeP (pc l j) b) (hn : m < l.length → ¬ BeforeP (pc l m) b) (r : List PcT × Bool) (h : Ev (fun k => spec_AddPiece.j2 k (m : Int) l b.f0 b.f1 b.f2 b.f3 b.f4 b.f5 b.f6 b.f7 b.f8 b.f9) r) (d : Nat) :
    ∀ i, i + d = m → Ev (fun k => spec_AddPiece.l0 k (i : Int) l b.f0 b.f1 b.f2 b.f3 b.f4 b.f5 b.f6 b.f7 b.f8 b.f9) r := by
  induction d with
  | zero =>
    intro i hi
    obtain rfl : i = m := by omega
    refine Ev.step (fun k => by rw [spec_AddPiece.l0]) ?_
    refine Ev.ite (fun hlt => ?_) (fun _ => h)
    refine Ev.ite_pos (by omega) (Ev.opt_bind (before_val (pc l i) b) ?_)
    rw [decide_eq_false (hn (by omega))]
    exact Ev.ite_neg (by decide) h
  | succ d ih =>
    intro i hi
    have hw : wrap64 ((i : Int) + 1) = ((i + 1 : Nat) : Int) := by rw [w64 (by omega) (by omega)]; omega
    refine Ev.step (fun k => by rw [spec_AddPiece.l0]) ?_
    refine Ev.ite_pos (by omega) (Ev.ite_pos (by omega) (Ev.opt_bind (before_val (pc l i) b) ?_))
    rw [decide_eq_true (hb i (by omega)), hw]
    exact Ev.ite_pos rfl (ih (i + 1) (by omega))
theorem implAt_go (l : List PcT) (b : PcT) (hp : ∀ j, j < l.length → PieceP (pc l j)) (hx : PieceP b) (m : Nat) (hl : l.length ≤ 60) (hm : m ≤ l.length) (hb : ∀ j, j < m → BeforeP (pc l j) b) (hn : m < l.length → ¬ BeforeP (pc l m) b) (r : List PcT × Bool) (h : Ev (fun k => impl_AddPiece.j4 k false (m : Int) b.f0 b.f1 b.f2 b.f3 b.f4 b.f5 b.f6 b.f7 b.f8 b.f9 l) r) (d : Nat) :
    ∀ i, i + d = m → Ev (fun k => impl_AddPiece.l1 k false (i : Int) b.f0 b.f1 b.f2 b.f3 b.f4 b.f5 b.f6 b.f7 b.f8 b.f9 l) r := by
  induction d with
  | zero =>
    intro i hi
    obtain rfl : i = m := by omega
    refine Ev.step (fun k => by rw [impl_AddPiece.l1]) ?_
    refine Ev.ite (fun hlt => ?_) (fun _ => h)
    obtain ⟨n, en, hn'⟩ := order_val (pc l i) b (hp i (by omega)) hx
    have := hn'.2 (hn (by omega))
    refine Ev.ite_pos (by omega) (Ev.opt_bind en (Ev.ite_neg (by omega) h))
  | succ d ih =>
    intro i hi
    have hw : wrap64 ((i : Int) + 1) = ((i + 1 : Nat) : Int) := by rw [w64 (by omega) (by omega)]; omega
    obtain ⟨n, en, hn'⟩ := order_val (pc l i) b (hp i (by omega)) hx
    have hlt : n < 0 := Classical.byContradiction fun hge => hn'.1 (by omega) (hb i (by omega))
    refine Ev.step (fun k => by rw [impl_AddPiece.l1]) ?_
    refine Ev.ite_pos (by omega) (Ev.ite_pos (by omega) (Ev.opt_bind en (Ev.ite_pos hlt ?_)))
    rw [hw]
    exact ih (i + 1) (by omega)
theorem implFind_go (l : List PcT) (b : PcT) (hl : l.length ≤ 60) (d : Nat) : ∀ i, i + d = l.length →
    ((∃ j, i ≤ j ∧ j < l.length ∧ Twin (pc l j) b) → Ev (fun k => impl_AddPiece.l0 k false l (l.length : Int) (i : Int) b.f0 b.f1 b.f2 b.f3 b.f4 b.f5 b.f6 b.f7 b.f8 b.f9 l) (l, true)) ∧
    ((¬ ∃ j, i ≤ j ∧ j < l.length ∧ Twin (pc l j) b) → ∀ r, Ev (fun k => impl_AddPiece.l1 k false 0 b.f0 b.f1 b.f2 b.f3 b.f4 b.f5 b.f6 b.f7 b.f8 b.f9 l) r → Ev (fun k => impl_AddPiece.l0 k false l (l.length : Int) (i : Int) b.f0 b.f1 b.f2 b.f3 b.f4 b.f5 b.f6 b.f7 b.f8 b.f9 l) r) := by
  induction d with
  | zero =>
    intro i hi
    refine ⟨fun ⟨j, h1, h2, _⟩ => by omega, fun _ r h => Ev.step (fun k => by rw [impl_AddPiece.l0]) (Ev.ite_neg (by omega) h)⟩
  | succ d ih =>
    intro i hi
    have hw : wrap64 ((i : Int) + 1) = ((i + 1 : Nat) : Int) := by rw [w64 (by omega) (by omega)]; omega
    obtain ⟨ih1, ih2⟩ := ih (i + 1) (by omega)
    have hsame : ((pc l i).f0 == b.f0 && ((pc l i).f1 == b.f1 && ((pc l i).f2 == b.f2 && ((pc l i).f3 == b.f3 && ((pc l i).f4 == b.f4 && ((pc l i).f5 == b.f5 && ((0 : Int) == 0 && ((0 : Int) == 0 && ((pc l i).f8 == b.f8 && ((⟨#[]⟩ : ByteArray).toList == (⟨#[]⟩ : ByteArray).toList)))))))))) = decide (SameP (pc l i) b) := by
      unfold SameP
      by_cases h0 : (pc l i).f0 = b.f0 <;> by_cases h1 : (pc l i).f1 = b.f1 <;> by_cases h2 : (pc l i).f2 = b.f2 <;> by_cases h3 : (pc l i).f3 = b.f3 <;> by_cases h4 : (pc l i).f4 = b.f4 <;> by_cases h5 : (pc l i).f5 = b.f5 <;> by_cases h6 : (pc l i).f8 = b.f8 <;> simp [h0, h1, h2, h3, h4, h5, h6]
    have start : ∀ r, Ev (fun k => if decide (SameP (pc l i) b) = true then (if (pc l i).f7 = b.f7 then impl_AddPiece.j2 k false l (l.length : Int) (i : Int) ((pc l i).f9.toList == b.f9.toList) b.f0 b.f1 b.f2 b.f3 b.f4 b.f5 b.f6 b.f7 b.f8 b.f9 l else impl_AddPiece.j2 k false l (l.length : Int) (i : Int) false b.f0 b.f1 b.f2 b.f3 b.f4 b.f5 b.f6 b.f7 b.f8 b.f9 l) else impl_AddPiece.j2 k false l (l.length : Int) (i : Int) false b.f0 b.f1 b.f2 b.f3 b.f4 b.f5 b.f6 b.f7 b.f8 b.f9 l) r → Ev (fun k => impl_AddPiece.l0 k false l (l.length : Int) (i : Int) b.f0 b.f1 b.f2 b.f3 b.f4 b.f5 b.f6 b.f7 b.f8 b.f9 l) r := by
      intro r h
      refine Ev.step (fun k => by rw [impl_AddPiece.l0]) (Ev.ite_pos (by omega) (Ev.ite_pos (by omega) (Ev.ite_pos (by omega) ?_)))
      simp only [impl_of.f, Option.bind_some]
      rw [← hsame] at h
      exact h
    have go : ∀ r, Ev (fun k => impl_AddPiece.l0 k false l (l.length : Int) ((i + 1 : Nat) : Int) b.f0 b.f1 b.f2 b.f3 b.f4 b.f5 b.f6 b.f7 b.f8 b.f9 l) r → Ev (fun k => impl_AddPiece.j2 k false l (l.length : Int) (i : Int) false b.f0 b.f1 b.f2 b.f3 b.f4 b.f5 b.f6 b.f7 b.f8 b.f9 l) r := fun r h =>
      Ev.step (fun k => by rw [impl_AddPiece.j2]) (Ev.ite_neg (by decide) (by rw [hw]; exact h))
    have other : ¬ Twin (pc l i) b → ∀ r, Ev (fun k => impl_AddPiece.l0 k false l (l.length : Int) ((i + 1 : Nat) : Int) b.f0 b.f1 b.f2 b.f3 b.f4 b.f5 b.f6 b.f7 b.f8 b.f9 l) r → Ev (fun k => impl_AddPiece.l0 k false l (l.length : Int) (i : Int) b.f0 b.f1 b.f2 b.f3 b.f4 b.f5 b.f6 b.f7 b.f8 b.f9 l) r := by
      intro ht r h
      refine start r ?_
      by_cases hs : SameP (pc l i) b
      · rw [decide_eq_true hs]
        refine Ev.ite_pos rfl (Ev.ite (fun h7 => ?_) (fun _ => go r h))
        have h9 : ((pc l i).f9.toList == b.f9.toList) = false := beq_eq_false_iff_ne.2 fun e => ht ⟨hs, h7, (str_toList _ _).1 e⟩
        rw [h9]
        exact go r h
      · rw [decide_eq_false hs]
        exact Ev.ite_neg (by decide) (go r h)
    constructor
    · rintro ⟨j, h1, h2, ht⟩
      by_cases hi' : Twin (pc l i) b
      · refine start _ ?_
        rw [decide_eq_true hi'.1]
        refine Ev.ite_pos rfl (Ev.ite_pos hi'.2.1 ?_)
        rw [beq_iff_eq.2 ((str_toList _ _).2 hi'.2.2)]
        exact Ev.step (fun k => by rw [impl_AddPiece.j2]) (Ev.ite_pos rfl (Ev.now _))
      · refine other hi' _ (ih1 ⟨j, ?_, h2, ht⟩)
        rcases Nat.lt_or_ge i j with h | h
        · exact h
        · obtain rfl : j = i := by omega
          exact absurd ht hi'
    · intro hno r h
      exact other (fun ht => hno ⟨i, Nat.le_refl _, by omega, ht⟩) r (ih2 (fun ⟨j, h1, h2, ht⟩ => hno ⟨j, by omega, h2, ht⟩) r h)
theorem add_both (l : List PcT) (b : PcT) (hl : l.length ≤ 1048576) (h8 : ∀ j : Nat, j < l.length → -9223372036854775808 ≤ (pc l j).f8 ∧ (pc l j).f8 ≤ 9223372036854775807) (hb8 : -9223372036854775808 ≤ b.f8 ∧ b.f8 ≤ 9223372036854775807) :
    ∃ (v : List PcT) (c : Bool), v.length ≤ 60 ∧ Ev (fun k => spec_AddPiece.f k l b.f0 b.f1 b.f2 b.f3 b.f4 b.f5 b.f6 b.f7 b.f8 b.f9) (v, c) ∧ Ev (fun k => impl_AddPiece.f k l b.f0 b.f1 b.f2 b.f3 b.f4 b.f5 b.f6 b.f7 b.f8 b.f9) (v, c) ∧ (c = true ↔ PileFrom v 0 ∧ v ≠ []) := by
  obtain ⟨g, e, f, hg⟩ := pile_both l hl h8
  have noS : Ev (fun k => spec_AddPiece.j0 k true l b.f0 b.f1 b.f2 b.f3 b.f4 b.f5 b.f6 b.f7 b.f8 b.f9) (([] : List PcT), false) := Ev.step (fun k => by rw [spec_AddPiece.j0]) (Ev.ite_pos rfl (Ev.now _))
  have noI : Ev (fun k => impl_AddPiece.j0 k false true l b.f0 b.f1 b.f2 b.f3 b.f4 b.f5 b.f6 b.f7 b.f8 b.f9) (([] : List PcT), false) := Ev.step (fun k => by rw [impl_AddPiece.j0]) (Ev.ite_pos rfl (Ev.now _))
  have nil : ((false = true) ↔ PileFrom ([] : List PcT) 0 ∧ ([] : List PcT) ≠ []) := ⟨fun h => absurd h (by decide), fun h => absurd rfl h.2⟩
  simp only [spec_AddPiece.f, impl_AddPiece.f]
  cases g with
  | false => exact ⟨[], false, by simp, Ev.bind e (Ev.ite_neg (by decide) noS), Ev.bind f (Ev.ite_neg (by decide) noI), nil⟩
  | true =>
    obtain ⟨hp, h60⟩ := hg.1 rfl
    have hgS := specGoodH b.f0 b.f1 b.f2 b.f3 b.f4 b.f5 b.f6 b.f7 b.f8 b.f9
    obtain ⟨c, ec, hc⟩ := piece_val b hb8
    by_cases h0 : GoodP b.f0 b.f1 b.f3 b.f4 b.f5 b.f6 b.f7 b.f8 b.f9.size
    case neg =>
      rw [decide_eq_false h0] at hgS
      have : c = false := by cases c with
        | false => rfl
        | true => exact absurd (hc.1 rfl).1 h0
      subst this
      exact ⟨[], false, by simp, Ev.bind e (Ev.ite_pos rfl (Ev.bind hgS (Ev.ite_neg (by decide) noS))), Ev.bind f (Ev.ite_pos rfl (Ev.bind ec noI)), nil⟩
    rw [decide_eq_true h0] at hgS
    by_cases hz : b.f8 = 0
    · have : c = false := by cases c with
        | false => rfl
        | true => exact absurd hz (hc.1 rfl).2
      subst this
      refine ⟨[], false, by simp, Ev.bind e (Ev.ite_pos rfl (Ev.bind hgS (Ev.ite_pos rfl ?_))), Ev.bind f (Ev.ite_pos rfl (Ev.bind ec noI)), nil⟩
      rw [beq_iff_eq.2 hz]
      exact noS
    have hx : PieceP b := ⟨h0, hz⟩
    obtain rfl : c = true := hc.2 hx
    have tb := hx.told
    have hps : ∀ j, j < l.length → PieceP (pc l j) := fun j hj => (hp j (Nat.zero_le _) hj).1.1
    obtain ⟨m, _, hm, hb, hn⟩ := addAt l b l.length 0 (by omega)
    replace hb : ∀ j, j < m → BeforeP (pc l j) b := fun j hj => hb j (Nat.zero_le _) hj
    -- the roads of the two
    have toS : ∀ r, Ev (fun k => spec_AddPiece.j2 k (m : Int) l b.f0 b.f1 b.f2 b.f3 b.f4 b.f5 b.f6 b.f7 b.f8 b.f9) r → Ev (fun k => (spec_GoodPile.f k l).bind fun t188 => (if t188 = true then ((spec_GoodBundle.f k b.f0 b.f1 b.f2 b.f3 b.f4 b.f5 b.f6 b.f7 b.f8 b.f9).bind fun t189 => (if t189 = true then (spec_AddPiece.j0 k (b.f8 == 0) l b.f0 b.f1 b.f2 b.f3 b.f4 b.f5 b.f6 b.f7 b.f8 b.f9) else (spec_AddPiece.j0 k true l b.f0 b.f1 b.f2 b.f3 b.f4 b.f5 b.f6 b.f7 b.f8 b.f9))) else (spec_AddPiece.j0 k true l b.f0 b.f1 b.f2 b.f3 b.f4 b.f5 b.f6 b.f7 b.f8 b.f9))) r := by
      intro r h
      refine Ev.bind e (Ev.ite_pos rfl (Ev.bind hgS (Ev.ite_pos rfl ?_)))
      rw [beq_eq_false_iff_ne.2 hz]
      refine Ev.step (fun k => by rw [spec_AddPiece.j0]) (Ev.ite_neg (by decide) ?_)
      exact specAt_go l b m h60 hm hb hn r h m 0 (by omega)
    have toI : ∀ r, Ev (fun k => impl_AddPiece.l0 k false l (l.length : Int) 0 b.f0 b.f1 b.f2 b.f3 b.f4 b.f5 b.f6 b.f7 b.f8 b.f9 l) r → Ev (fun k => (impl_GoodPile.f k l).bind fun t241 => (if t241 = true then ((impl_isPiece.f k b.f0 b.f1 b.f2 b.f3 b.f4 b.f5 b.f6 b.f7 b.f8 b.f9).bind fun t242 => (impl_AddPiece.j0 k false (!t242) l b.f0 b.f1 b.f2 b.f3 b.f4 b.f5 b.f6 b.f7 b.f8 b.f9)) else (impl_AddPiece.j0 k false true l b.f0 b.f1 b.f2 b.f3 b.f4 b.f5 b.f6 b.f7 b.f8 b.f9))) r := by
      intro r h
      refine Ev.bind f (Ev.ite_pos rfl (Ev.bind ec ?_))
      have hcl : impl_Bundle_56.f l = some l := if_pos (by omega)
      refine Ev.step (fun k => by rw [Bool.not_true, impl_AddPiece.j0]) ?_
      refine Ev.ite_neg (by decide) ?_
      exact Ev.opt_bind hcl h
    -- what stands when the piece is put in
    have hil := addIn_len l m b hm
    have h8i : ∀ j : Nat, j < (addIn l m b).length → -9223372036854775808 ≤ (pc (addIn l m b) j).f8 ∧ (pc (addIn l m b) j).f8 ≤ 9223372036854775807 := by
      intro j hj
      rw [pc_get _ _ hj]
      rcases addIn_mem (List.getElem_mem hj) with h | h
      · obtain ⟨i, hi, e⟩ := List.getElem_of_mem h
        rw [← e, ← pc_get _ _ hi]
        exact h8 i hi
      · rw [h]; exact hb8
    obtain ⟨g2, e2, f2, hg2⟩ := pile_both (addIn l m b) (by omega) h8i
    have d4 : Ev (fun k => impl_AddPiece.j4 k false (m : Int) b.f0 b.f1 b.f2 b.f3 b.f4 b.f5 b.f6 b.f7 b.f8 b.f9 l) (if g2 = true then addIn l m b else [], g2) := by
      refine Ev.step (fun k => by rw [impl_AddPiece.j4]) ?_
      refine Ev.ite_neg (by omega) ?_
      refine Ev.ite_pos (And.intro (by omega) (by omega)) ?_
      simp only [Option.bind_some, Int.toNat_natCast]
      refine Ev.bind f2 ?_
      cases g2 with
      | true => exact Ev.ite_pos rfl (Ev.now _)
      | false => exact Ev.ite_neg (by decide) (Ev.now _)
    have s4 : Ev (fun k => spec_AddPiece.j4 k (m : Int) l (l.take m ++ [b])) (if g2 = true then addIn l m b else [], g2) := by
      refine Ev.step (fun k => by rw [spec_AddPiece.j4]) (Ev.ite_pos (by omega) (Ev.ite_pos (by omega) ?_))
      simp only [Option.bind_some, Int.toNat_natCast]
      refine Ev.ite_pos (by simp; omega) (Ev.bind e2 ?_)
      cases g2 with
      | true => exact Ev.ite_pos rfl (Ev.now _)
      | false => exact Ev.ite_neg (by decide) (Ev.now _)
    have s3 : Ev (fun k => spec_AddPiece.j3 k (m : Int) true l b.f0 b.f1 b.f2 b.f3 b.f4 b.f5 b.f6 b.f7 b.f8 b.f9 (l.take m)) (if g2 = true then addIn l m b else [], g2) := by
      refine Ev.step (fun k => by rw [spec_AddPiece.j3]) (Ev.ite_pos rfl (Ev.ite_pos (by simp; omega) ?_))
      exact s4
    have s2 : ∀ (t : Bool) (r : List PcT × Bool), (m = l.length → t = true) → (m < l.length → t = decide (BeforeP b (pc l m))) → Ev (fun k => spec_AddPiece.j3 k (m : Int) t l b.f0 b.f1 b.f2 b.f3 b.f4 b.f5 b.f6 b.f7 b.f8 b.f9 (l.take m)) r → Ev (fun k => spec_AddPiece.j2 k (m : Int) l b.f0 b.f1 b.f2 b.f3 b.f4 b.f5 b.f6 b.f7 b.f8 b.f9) r := by
      intro t r ht1 ht2 h
      refine Ev.step (fun k => by rw [spec_AddPiece.j2]) ?_
      simp only [Option.bind_some, Int.toNat_natCast, List.nil_append]
      refine Ev.ite_pos (by omega) (Ev.ite_pos (by omega) (Ev.ite_pos (by simp; omega) (Ev.ite (fun he => ?_) (fun he => Ev.ite_pos (by omega) (Ev.opt_bind (before_val b (pc l m)) ?_)))))
      · rw [ht1 (by omega)] at h; exact h
      · rw [← ht2 (by omega)]; exact h
    have fin : (g2 = true → addIn l m b ≠ []) := fun _ h => by rw [h] at hil; simp at hil
    have put : (¬ ∃ j, j < l.length ∧ Twin (pc l j) b) → (m < l.length → BeforeP b (pc l m)) → ∃ (v : List PcT) (c : Bool), v.length ≤ 60 ∧ Ev (fun k => (spec_GoodPile.f k l).bind fun t188 => (if t188 = true then ((spec_GoodBundle.f k b.f0 b.f1 b.f2 b.f3 b.f4 b.f5 b.f6 b.f7 b.f8 b.f9).bind fun t189 => (if t189 = true then (spec_AddPiece.j0 k (b.f8 == 0) l b.f0 b.f1 b.f2 b.f3 b.f4 b.f5 b.f6 b.f7 b.f8 b.f9) else (spec_AddPiece.j0 k true l b.f0 b.f1 b.f2 b.f3 b.f4 b.f5 b.f6 b.f7 b.f8 b.f9))) else (spec_AddPiece.j0 k true l b.f0 b.f1 b.f2 b.f3 b.f4 b.f5 b.f6 b.f7 b.f8 b.f9))) (v, c) ∧ Ev (fun k => (impl_GoodPile.f k l).bind fun t241 => (if t241 = true then ((impl_isPiece.f k b.f0 b.f1 b.f2 b.f3 b.f4 b.f5 b.f6 b.f7 b.f8 b.f9).bind fun t242 => (impl_AddPiece.j0 k false (!t242) l b.f0 b.f1 b.f2 b.f3 b.f4 b.f5 b.f6 b.f7 b.f8 b.f9)) else (impl_AddPiece.j0 k false true l b.f0 b.f1 b.f2 b.f3 b.f4 b.f5 b.f6 b.f7 b.f8 b.f9))) (v, c) ∧ (c = true ↔ PileFrom v 0 ∧ v ≠ []) := by
      intro hno hbm
      refine ⟨if g2 = true then addIn l m b else [], g2, ?_, toS _ (s2 true _ (fun _ => rfl) (fun h => (decide_eq_true (hbm h)).symm) s3), toI _ ((implFind_go l b h60 l.length 0 (by omega)).2 (fun ⟨j, _, h2, h3⟩ => hno ⟨j, h2, h3⟩) _ (implAt_go l b hps hx m h60 hm hb hn _ d4 m 0 (by omega))), ?_⟩
      · cases g2 with
        | true => exact (hg2.1 rfl).2
        | false => simp
      · cases g2 with
        | true => exact ⟨fun _ => ⟨(hg2.1 rfl).1, fin rfl⟩, fun _ => rfl⟩
        | false => exact nil
    by_cases hm' : m < l.length
    case neg =>
      refine put (fun ⟨j, hj, ht⟩ => ?_) (fun h => absurd h hm')
      have := hb j (by omega)
      unfold BeforeP at this
      rw [ht.2.1, ht.2.2] at this
      omega
    have hnm := hn hm'
    by_cases hbm : BeforeP b (pc l m)
    · refine put (fun ⟨j, hj, ht⟩ => ?_) (fun _ => hbm)
      rcases Nat.lt_trichotomy j m with h | h | h
      · have := hb j h
        unfold BeforeP at this
        rw [ht.2.1, ht.2.2] at this
        omega
      · subst h
        unfold BeforeP at hbm
        rw [ht.2.1, ht.2.2] at hbm
        omega
      · have step : ∀ d, m + 1 + d < l.length → BeforeP (pc l m) (pc l (m + 1 + d)) := by
          intro d
          induction d with
          | zero => exact fun h => (hp (m + 1) (Nat.zero_le _) h).1.2.2 (by omega)
          | succ d ih =>
            intro h
            have a1 := ih (by omega)
            have a2 := (hp (m + 1 + (d + 1)) (Nat.zero_le _) h).1.2.2 (by omega)
            rw [show m + 1 + (d + 1) - 1 = m + 1 + d by omega] at a2
            unfold BeforeP at a1 a2 ⊢
            omega
        have := step (j - (m + 1)) (by omega)
        rw [show m + 1 + (j - (m + 1)) = j by omega] at this
        unfold BeforeP at this hbm
        rw [ht.2.1, ht.2.2] at this
        omega
    have h7 : (pc l m).f7 = b.f7 ∧ (pc l m).f9.size = b.f9.size := by
      unfold BeforeP at hnm hbm
      omega
    by_cases ht : Twin (pc l m) b
    · refine ⟨l, true, h60, toS _ (s2 false _ (fun h => by omega) (fun _ => (decide_eq_false hbm).symm) ?_), toI _ ((implFind_go l b h60 l.length 0 (by omega)).1 ⟨m, Nat.zero_le _, hm', ht⟩), ⟨fun _ => ⟨hp, fun h => by rw [h] at hm'; simp at hm'⟩, fun _ => rfl⟩⟩
      refine Ev.step (fun k => by rw [spec_AddPiece.j3]) (Ev.ite_neg (by decide) (Ev.ite_pos (by omega) (Ev.ite_pos (by omega) (Ev.opt_bind (same_val b (pc l m)) ?_))))
      have hs : SameP b (pc l m) := by
        obtain ⟨h, _⟩ := ht
        unfold SameP at h ⊢
        exact ⟨h.1.symm, h.2.1.symm, h.2.2.1.symm, h.2.2.2.1.symm, h.2.2.2.2.1.symm, h.2.2.2.2.2.1.symm, h.2.2.2.2.2.2.symm⟩
      rw [decide_eq_true hs]
      refine Ev.ite_pos rfl (Ev.ite_pos ((str_toList _ _).2 ht.2.2.symm) ?_)
      refine Ev.step (fun k => by rw [spec_AddPiece.j4]) (Ev.ite_pos (by omega) (Ev.ite_pos (by omega) ?_))
      simp only [Option.bind_some, Int.toNat_natCast, List.take_append_drop]
      exact Ev.ite_pos (by simp; omega) (Ev.bind e (Ev.ite_pos rfl (Ev.now _)))
    · have hno : ¬ ∃ j, 0 ≤ j ∧ j < l.length ∧ Twin (pc l j) b := by
        rintro ⟨j, _, hj, h⟩
        rcases Nat.lt_trichotomy j m with hh | hh | hh
        · have := hb j hh
          unfold BeforeP at this
          rw [h.2.1, h.2.2] at this
          omega
        · subst hh; exact ht h
        · have step : ∀ d, m + 1 + d < l.length → BeforeP (pc l m) (pc l (m + 1 + d)) := by
            intro d
            induction d with
            | zero => exact fun h => (hp (m + 1) (Nat.zero_le _) h).1.2.2 (by omega)
            | succ d ih =>
              intro h
              have a1 := ih (by omega)
              have a2 := (hp (m + 1 + (d + 1)) (Nat.zero_le _) h).1.2.2 (by omega)
              rw [show m + 1 + (d + 1) - 1 = m + 1 + d by omega] at a2
              unfold BeforeP at a1 a2 ⊢
              omega
          have := step (j - (m + 1)) (by omega)
          rw [show m + 1 + (j - (m + 1)) = j by omega] at this
          unfold BeforeP at this
          rw [h.2.1, h.2.2] at this
          omega
      have hg2f : g2 = false := by
        cases g2 with
        | false => rfl
        | true =>
          have a := (hg2.1 rfl).1 (m + 1) (Nat.zero_le _) (by omega)
          have a2 := a.1.2.2 (by omega)
          rw [Nat.add_sub_cancel, addIn_at l m b hm, addIn_next l m b hm'] at a2
          exact absurd a2 hbm
      subst hg2f
      refine ⟨[], false, by simp, toS _ (s2 false _ (fun h => by omega) (fun _ => (decide_eq_false hbm).symm) ?_), toI _ ((implFind_go l b h60 l.length 0 (by omega)).2 hno _ (implAt_go l b hps hx m h60 hm hb hn _ d4 m 0 (by omega))), nil⟩
      refine Ev.step (fun k => by rw [spec_AddPiece.j3]) (Ev.ite_neg (by decide) (Ev.ite_pos (by omega) (Ev.ite_pos (by omega) (Ev.opt_bind (same_val b (pc l m)) ?_))))
      by_cases hs : SameP b (pc l m)
      · rw [decide_eq_true hs]
        refine Ev.ite_pos rfl (Ev.ite_neg (fun he => ht ⟨?_, h7.1, ((str_toList _ _).1 he).symm⟩) (Ev.now _))
        unfold SameP at hs ⊢
        exact ⟨hs.1.symm, hs.2.1.symm, hs.2.2.1.symm, hs.2.2.2.1.symm, hs.2.2.2.2.1.symm, hs.2.2.2.2.2.1.symm, hs.2.2.2.2.2.2.symm⟩
      · rw [decide_eq_false hs]
        exact Ev.ite_neg (by decide) (Ev.now _)
theorem markText_go (d : Nat) : ∀ (n : Nat) (t : ByteArray), n < 10 ^ d → n ≤ 1099511627776 → t.size + d ≤ 100 → ∃ r : ByteArray, Ev (fun k => laws_markText.l0 k (n : Int) t) r := by
  induction d with
  | zero =>
    intro n t h0 hb h1
    have hn : n = 0 := by simpa using h0
    subst hn
    refine ⟨_, Ev.step (fun k => by rw [laws_markText.l0]) (Ev.ite_neg (by decide) (Ev.ite_pos (by omega) (Ev.now _)))⟩
  | succ d ih =>
    intro n t h0 hb h1
    by_cases hn : n = 0
    · subst hn
      refine ⟨_, Ev.step (fun k => by rw [laws_markText.l0]) (Ev.ite_neg (by decide) (Ev.ite_pos (by omega) (Ev.now _)))⟩
    · have hq : wrap64 (Int.tdiv (n : Int) 10) = ((n / 10 : Nat) : Int) := by rw [Int.tdiv_eq_ediv_of_nonneg (by omega), w64 (by omega) (by omega)]; omega
      have h10 : n / 10 < 10 ^ d := by rw [Nat.pow_succ] at h0; omega
      have hz : ∀ y : Int, (strOfNums [y]).size = 1 := fun y => by rw [strOfNums_size]; rfl
      obtain ⟨r, hr⟩ := ih (n / 10) (strOfNums [(wrap64 (48 + (Int.tmod (n : Int) 10))) % 256] ++ t) h10 (by omega) (by rw [ByteArray.size_append, hz]; omega)
      refine ⟨r, Ev.step (fun k => by rw [laws_markText.l0]) (Ev.ite_pos (by omega) ?_)⟩
      simp only [Option.bind_some]
      rw [hq]
      exact Ev.ite_pos (by rw [hz]; omega) hr
theorem markText_val (n : Nat) (h : n ≤ 1099511627776) : ∃ r : ByteArray, Ev (fun k => laws_markText.f k (n : Int)) r := by
  simp only [laws_markText.f]
  by_cases h0 : (n : Int) ≤ 0
  · exact ⟨_, Ev.ite_pos h0 (Ev.now _)⟩
  · obtain ⟨r, hr⟩ := markText_go 20 n (⟨#[]⟩ : ByteArray) (by omega) h (by decide)
    exact ⟨r, Ev.ite_neg h0 hr⟩
theorem mkB_set (l : List S46) (i : Nat) (h : i < l.length) (v : S46) : rd_T46 (l.set i v) (i : Int) = v := by
  simp [rd_T46, List.getD_eq_getElem?_getD, h]
theorem mkB_w (i : Nat) (h : i ≤ 1048576) : wrap64 (1 + 10 * (i : Int) + 1) = 2 + 10 * (i : Int) ∧ wrap64 (2 + 10 * (i : Int) + 1) = 3 + 10 * (i : Int) ∧ wrap64 (3 + 10 * (i : Int) + 1) = 4 + 10 * (i : Int) ∧ wrap64 (4 + 10 * (i : Int) + 1) = 5 + 10 * (i : Int) ∧ wrap64 (5 + 10 * (i : Int) + 1) = 6 + 10 * (i : Int) ∧ wrap64 (6 + 10 * (i : Int) + 1) = 7 + 10 * (i : Int) ∧ wrap64 (7 + 10 * (i : Int) + 1) = 8 + 10 * (i : Int) ∧ wrap64 (8 + 10 * (i : Int) + 1) = 9 + 10 * (i : Int) ∧ wrap64 (9 + 10 * (i : Int) + 1) = 10 + 10 * (i : Int) ∧ wrap64 (10 + 10 * (i : Int) + 1) = 1 + 10 * ((i + 1 : Nat) : Int) ∧ wrap64 ((i : Int) + 1) = ((i + 1 : Nat) : Int) := by
  refine ⟨?_, ?_, ?_, ?_, ?_, ?_, ?_, ?_, ?_, ?_, ?_⟩ <;> (rw [w64 (by omega) (by omega)]; omega)
theorem markPiles_go (n : Nat) (hn : n ≤ 1048576) (d : Nat) : ∀ (l : List S46) (i : Nat), l.length = n → i ≤ n → n - i = d → ∃ l' : List S46, Ev (fun k => laws_markBundleS.l0 k l (1 + 10 * (i : Int)) (i : Int)) (1 + 10 * (n : Int), l') := by
  induction d with
  | zero =>
    intro l i h1 h2 hd
    obtain rfl : i = n := by omega
    refine ⟨l, ?_⟩
    refine Ev.step (fun k => by rw [laws_markBundleS.l0]) ?_
    exact Ev.ite_neg (by omega) (Ev.now _)
  | succ d ih =>
    intro l i h1 h2 hd
    have hlt : i < l.length := by omega
    obtain ⟨t, ht⟩ := markText_val (10 + 10 * i) (by omega)
    have et : ((10 + 10 * i : Nat) : Int) = 10 + 10 * (i : Int) := by omega
    rw [et] at ht
    have c1 : (i : Int) < (l.length : Int) := by omega
    have c2 : (0 : Int) ≤ (i : Int) := by omega
    obtain ⟨l', c⟩ := ih (l.set i ⟨1 + 10 * (i : Int), 2 + 10 * (i : Int), Int.tmod (3 + 10 * (i : Int)) 3 == 0, 4 + 10 * (i : Int), 5 + 10 * (i : Int), 6 + 10 * (i : Int), 7 + 10 * (i : Int), 8 + 10 * (i : Int), 9 + 10 * (i : Int), t⟩) (i + 1) (by simpa using h1) (by omega) (by omega)
    obtain ⟨w1, w2, w3, w4, w5, w6, w7, w8, w9, w10, w11⟩ := mkB_w i (by omega)
    refine ⟨l', ?_⟩
    refine Ev.step (fun k => by rw [laws_markBundleS.l0]) ?_
    refine Ev.ite_pos c1 (Ev.ite_pos c2 ?_)
    simp only [Option.bind_some, Int.toNat_natCast, w1, w2, w3, w4, w5, w6, w7, w8, w9, w10, w11, List.set_set, mkB_set _ i (show i < (l.set i _).length by simpa using hlt), mkB_set l i hlt]
    refine Ev.bind ht ?_
    exact c
theorem markPile_val (l : List S46) (hl : l.length ≤ 1048576) : ∃ l', Ev (fun k => laws_markPile.f k l 1) (1 + 10 * (l.length : Int), l') := by
  obtain ⟨l', h⟩ := markPiles_go l.length hl _ l 0 rfl (Nat.zero_le _) rfl
  refine ⟨l', ?_⟩
  simp only [laws_markPile.f, laws_markBundleS.f]
  exact Ev.bind h (Ev.now _)
def Marked (l : List S46) (j : Nat) : Prop := ∃ t : ByteArray, Ev (fun k => laws_markText.f k (10 + 10 * (j : Int))) t ∧ rd_T46 l (j : Int) = ⟨1 + 10 * (j : Int), 2 + 10 * (j : Int), Int.tmod (3 + 10 * (j : Int)) 3 == 0, 4 + 10 * (j : Int), 5 + 10 * (j : Int), 6 + 10 * (j : Int), 7 + 10 * (j : Int), 8 + 10 * (j : Int), 9 + 10 * (j : Int), t⟩
theorem rdB_set_same (l : List S46) (i : Nat) (h : i < l.length) (v : S46) : rd_T46 (l.set i v) (i : Int) = v := by
  simp [rd_T46, List.getD_eq_getElem?_getD, h]
theorem rdB_set_ne (l : List S46) (i j : Nat) (h : i ≠ j) (v : S46) : rd_T46 (l.set i v) (j : Int) = rd_T46 l (j : Int) := by
  simp [rd_T46, List.getD_eq_getElem?_getD, h]
theorem mark_wB (i : Nat) (h : i ≤ 1000) : wrap64 (1 + 10 * (i : Int) + 1) = 2 + 10 * (i : Int) ∧ wrap64 (2 + 10 * (i : Int) + 1) = 3 + 10 * (i : Int) ∧ wrap64 (3 + 10 * (i : Int) + 1) = 4 + 10 * (i : Int) ∧ wrap64 (4 + 10 * (i : Int) + 1) = 5 + 10 * (i : Int) ∧ wrap64 (5 + 10 * (i : Int) + 1) = 6 + 10 * (i : Int) ∧ wrap64 (6 + 10 * (i : Int) + 1) = 7 + 10 * (i : Int) ∧ wrap64 (7 + 10 * (i : Int) + 1) = 8 + 10 * (i : Int) ∧ wrap64 (8 + 10 * (i : Int) + 1) = 9 + 10 * (i : Int) ∧ wrap64 (9 + 10 * (i : Int) + 1) = 10 + 10 * (i : Int) ∧ wrap64 (10 + 10 * (i : Int) + 1) = 1 + 10 * ((i + 1 : Nat) : Int) ∧ wrap64 ((i : Int) + 1) = ((i + 1 : Nat) : Int) := by
  refine ⟨?_, ?_, ?_, ?_, ?_, ?_, ?_, ?_, ?_, ?_, ?_⟩ <;> (rw [w64 (by omega) (by omega)]; omega)
theorem markBundleS_go (n : Nat) (hn : n ≤ 60) (d : Nat) : ∀ (l : List S46) (i : Nat), l.length = n → i ≤ n → n - i = d → (∀ j, j < i → Marked l j) →
    ∃ l' : List S46, l'.length = n ∧ (∀ j, j < n → Marked l' j) ∧ Ev (fun k => laws_markBundleS.l0 k l (1 + 10 * (i : Int)) (i : Int)) (1 + 10 * (n : Int), l') := by
  induction d with
  | zero =>
    intro l i h1 h2 hd hj
    obtain rfl : i = n := by omega
    refine ⟨l, h1, hj, ?_⟩
    refine Ev.step (fun k => by rw [laws_markBundleS.l0]) ?_
    exact Ev.ite_neg (by omega) (Ev.now _)
  | succ d ih =>
    intro l i h1 h2 hd hj
    have hlt : i < l.length := by omega
    obtain ⟨t, ht⟩ := markText_val (10 + 10 * i) (by omega)
    have et : ((10 + 10 * i : Nat) : Int) = 10 + 10 * (i : Int) := by omega
    rw [et] at ht
    have c1 : (i : Int) < (l.length : Int) := by omega
    have c2 : (0 : Int) ≤ (i : Int) := by omega
    obtain ⟨l', a, b, c⟩ := ih (l.set i ⟨1 + 10 * (i : Int), 2 + 10 * (i : Int), Int.tmod (3 + 10 * (i : Int)) 3 == 0, 4 + 10 * (i : Int), 5 + 10 * (i : Int), 6 + 10 * (i : Int), 7 + 10 * (i : Int), 8 + 10 * (i : Int), 9 + 10 * (i : Int), t⟩) (i + 1) (by simpa using h1) (by omega) (by omega) (fun j hj' => by
      rcases Nat.lt_or_ge j i with h | h
      · unfold Marked
        rw [rdB_set_ne _ _ _ (by omega)]
        exact hj j h
      · obtain rfl : j = i := by omega
        unfold Marked
        rw [rdB_set_same l j hlt]
        exact ⟨t, ht, rfl⟩)
    obtain ⟨w1, w2, w3, w4, w5, w6, w7, w8, w9, w10, w11⟩ := mark_wB i (by omega)
    refine ⟨l', a, b, ?_⟩
    refine Ev.step (fun k => by rw [laws_markBundleS.l0]) ?_
    refine Ev.ite_pos c1 (Ev.ite_pos c2 ?_)
    simp only [Option.bind_some, Int.toNat_natCast, w1, w2, w3, w4, w5, w6, w7, w8, w9, w10, w11, List.set_set, rdB_set_same _ i (show i < (l.set i _).length by simpa using hlt), rdB_set_same l i hlt]
    refine Ev.bind ht ?_
    exact c
theorem heldBundleS_go (n : Nat) (hn : n ≤ 60) (l : List S46) (hl : l.length = n) (hj : ∀ j, j < n → Marked l j) (d : Nat) : ∀ (i : Nat), i ≤ n → n - i = d →
    Ev (fun k => laws_heldBundleS.l0 k l (1 + 10 * (i : Int)) (i : Int)) (1 + 10 * (n : Int)) := by
  induction d with
  | zero =>
    intro i h2 hd
    obtain rfl : i = n := by omega
    refine Ev.step (fun k => by rw [laws_heldBundleS.l0]) ?_
    exact Ev.ite_neg (by omega) (Ev.now _)
  | succ d ih =>
    intro i h2 hd
    have c := ih (i + 1) (by omega) (by omega)
    have c1 : (i : Int) < (l.length : Int) := by omega
    have c2 : (0 : Int) ≤ (i : Int) := by omega
    have hi : i < n := by omega
    obtain ⟨w1, w2, w3, w4, w5, w6, w7, w8, w9, w10, w11⟩ := mark_wB i (by omega)
    obtain ⟨t, ht, e⟩ := hj i hi
    refine Ev.step (fun k => by rw [laws_heldBundleS.l0]) ?_
    simp only [w1, w2, w3, w4, w5, w6, w7, w8, w9, w10, w11, e]
    exact Ev.ite_pos c1 (Ev.ite_pos c2 (Ev.ite_pos trivial (Ev.ite_pos trivial (Ev.ite_neg (by simp) (Ev.ite_pos trivial (Ev.ite_pos trivial (Ev.ite_pos trivial (Ev.ite_pos trivial (Ev.ite_pos trivial (Ev.ite_pos trivial (Ev.bind ht (Ev.ite_pos rfl c))))))))))))
theorem markBundleS_held (l : List S46) (hl : l.length ≤ 60) : ∃ l' : List S46, Ev (fun k => laws_markBundleS.f k l 1) (1 + 10 * (l.length : Int), l') ∧ Ev (fun k => laws_heldBundleS.f k l' 1) (1 + 10 * (l.length : Int)) := by
  obtain ⟨l', a, b, c⟩ := markBundleS_go l.length hl l.length l 0 rfl (by omega) (by omega) (fun j hj => by omega)
  refine ⟨l', ?_, ?_⟩
  · simp only [laws_markBundleS.f]
    exact c
  · have := heldBundleS_go l.length hl l' a b l.length 0 (by omega) (by omega)
    simp only [laws_heldBundleS.f]
    exact this
theorem szPile_told (l : List S42) (h : l.length ≤ maxLen) (h' : ∀ x ∈ l, ok42 x) : ∃ r, Ev (fun k => laws_szPile.f k l 1048576) r ∧ (0 ≤ r → l.length ≤ 1048576) := by
  obtain ⟨r, a, hr⟩ := szBundleS_val l h (bundle_sizes l h')
  simp only [laws_szPile.f]
  by_cases h0 : r < 0
  · exact ⟨-1, Ev.bind a (Ev.ite_pos h0 (Ev.now _)), fun h => by omega⟩
  · exact ⟨r, Ev.bind a (Ev.ite_neg h0 (Ev.now _)), fun h => (hr h).1⟩
theorem toPile_told (l : List S42) (hl : l.length ≤ 1048576) : Ev (fun k => laws_toPile.f k l) (l.map bundleOf) := by
  simp only [laws_toPile.f]
  exact Ev.bind (toBundleS_val l hl) (Ev.now _)
theorem eqPile_told (l : List S46) (hl : l.length ≤ 1048576) : Ev (fun k => laws_eqPile.f k l l) true := by
  simp only [laws_eqPile.f]
  exact Ev.bind (eqBundleS_self _ hl) (Ev.ite_pos rfl (Ev.now _))
theorem heldPile_val (l : List PcT) (n : Int) (hn : 0 ≤ n) (h : Ev (fun k => laws_heldBundleS.f k l 1) n) : Ev (fun k => laws_heldPile.f k l 1) n := by
  simp only [laws_heldPile.f]
  exact Ev.bind h (Ev.ite_neg (by omega) (Ev.now _))
theorem FnExactAddPiece : Go.Proofs.Ytlkbbolkadkedaa.GoalFnExactAddPiece.Goal := by
  intro l a0 a1 a2 a3 a4 a5 a6 a7 a8 a9 hok h0 h1 h3 h4 h5 h6 h7 h8 h9
  refine Ev.rounds ?_
  obtain ⟨r, a, hr⟩ := szPile_told l hok.1 hok.2
  simp only [laws_FnExactAddPiece.f]
  refine Ev.bind a (Ev.ite (fun _ => Ev.now _) fun h => ?_)
  have hl := hr (by omega)
  obtain ⟨z, hz⟩ : ∃ z, laws_szBundle.f a0 a1 a2 a3 a4 a5 a6 a7 a8 a9 r = some z := by
    unfold laws_szBundle.f
    split <;> exact ⟨_, rfl⟩
  refine Ev.opt_bind hz (Ev.ite (fun _ => Ev.now _) fun _ => ?_)
  simp only [laws_toBundle.f, Option.bind_some]
  have hto := toPile_told l hl
  have hlm : (l.map bundleOf).length ≤ 1048576 := by simpa using hl
  obtain ⟨v, c, hv, x, y, _⟩ := add_both (l.map bundleOf) ⟨a0, a1, a2, a3, a4, a5, a6, a7, a8, a9⟩ hlm (pc_map l hok.2) (wf_i64 h8)
  have eqs := eqPile_told v (by omega)
  obtain ⟨l', m, hh⟩ := markBundleS_held v hv
  have mp : Ev (fun k => laws_markPile.f k v 1) (1 + 10 * (v.length : Int), l') := by
    simp only [laws_markPile.f]
    exact Ev.bind m (Ev.now _)
  have hp := heldPile_val l' _ (by omega) hh
  obtain ⟨l2, mx⟩ := markPile_val (l.map bundleOf) hlm
  refine Ev.bind hto (Ev.bind x (Ev.bind hto (Ev.bind y (Ev.bind eqs (Ev.ite_pos rfl ?_)))))
  refine Ev.step (fun k => by rw [laws_FnExactAddPiece.j0]) ?_
  refine Ev.ite_neg (by simp) (Ev.bind hto (Ev.bind (eqPile_told _ hlm) (Ev.ite_pos rfl (Ev.bind mx (Ev.ite_neg (by omega) (Ev.bind eqs (Ev.ite_pos rfl ?_)))))))
  refine Ev.step (fun k => by rw [laws_FnExactAddPiece.j1]) ?_
  refine Ev.ite_neg (by simp) (Ev.bind mp (Ev.bind hp (Ev.ite_neg (by omega) (Ev.ite_pos rfl (Ev.bind hto ?_)))))
  simp only [laws_toBundle.f, Option.bind_some]
  refine Ev.bind y (Ev.bind eqs (Ev.ite_pos rfl ?_))
  refine Ev.step (fun k => by rw [laws_FnExactAddPiece.j2]) ?_
  exact Ev.ite_neg (by simp) (Ev.bind hp (Ev.ite_neg (by omega) (Ev.ite_pos rfl (Ev.now _))))
end Go.Proofs.Ytlkbbolkadkedaa.Pure
