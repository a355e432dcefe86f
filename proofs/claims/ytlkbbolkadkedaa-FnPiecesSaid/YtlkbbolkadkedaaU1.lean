import Derived.Test.YtlkbbolkadkedaaQFnPiecesx0
import Derived.Test.YtlkbbolkadkedaaQFnPiecesx1
import Derived.Test.YtlkbbolkadkedaaQFnPiecesx2
import Derived.Test.YtlkbbolkadkedaaQFnPiecesx3
import Derived.Test.YtlkbbolkadkedaaQFnPiecesx4
import Derived.Test.YtlkbbolkadkedaaQFnPiecesx5
import Derived.Test.YtlkbbolkadkedaaQFnPiecesx6
import Derived.Test.YtlkbbolkadkedaaQFnPiecesx7
import Derived.Test.YtlkbbolkadkedaaQFnPiecesx10
import Derived.Test.YtlkbbolkadkedaaQFnPiecesx11
import Derived.Test.YtlkbbolkadkedaaQFnPiecesx12
import Derived.Test.YtlkbbolkadkedaaQFnPiecesx13
import Derived.Test.YtlkbbolkadkedaaQFnPiecesx14
import Derived.Test.YtlkbbolkadkedaaQFnPiecesx16
import Derived.Test.YtlkbbolkadkedaaPlain
set_option linter.unusedVariables false
set_option linter.unusedSimpArgs false
namespace Go.Proofs.Ytlkbbolkadkedaa.Pure
open Go.RowKit Go.Proofs.Ytlkbbolkadkedaa.QFnPieces Go.Proofs.YtlkbbolkadkedaaW.PrintWords Go.Proofs.YtlkbbolkadkedaaW.PrintLast Go.Proofs.Ytlkbbolkadkedaa.Plain
def GoodP (f t mk no life hops off tot : Int) (n : Nat) : Prop :=
  (0 ≤ f ∧ f ≤ 40) ∧ (0 ≤ t ∧ t ≤ 40) ∧ (0 ≤ mk ∧ mk ≤ 1000000) ∧ (0 ≤ no ∧ no ≤ 1000) ∧ (1 ≤ life ∧ life ≤ 1000000) ∧ (0 ≤ hops ∧ hops ≤ 30) ∧ n ≤ 60 ∧
    ((tot = 0 ∧ off = 0) ∨ (1 ≤ tot ∧ tot ≤ 60 ∧ 0 ≤ off ∧ off + n ≤ tot ∧ 0 < n))
instance (f t mk no life hops off tot : Int) (n : Nat) : Decidable (GoodP f t mk no life hops off tot n) := by unfold GoodP; infer_instance
abbrev PcT := S46
abbrev pc (l : List PcT) (i : Nat) : PcT := rd_T46 l (i : Int)
def PieceP (x : PcT) : Prop := GoodP x.f0 x.f1 x.f3 x.f4 x.f5 x.f6 x.f7 x.f8 x.f9.size ∧ x.f8 ≠ 0
def SameP (x y : PcT) : Prop := x.f0 = y.f0 ∧ x.f1 = y.f1 ∧ x.f2 = y.f2 ∧ x.f3 = y.f3 ∧ x.f4 = y.f4 ∧ x.f5 = y.f5 ∧ x.f8 = y.f8
instance (x y : PcT) : Decidable (SameP x y) := by unfold SameP; infer_instance
def BeforeP (x y : PcT) : Prop := x.f7 < y.f7 ∨ (x.f7 = y.f7 ∧ x.f9.size < y.f9.size)
instance (x y : PcT) : Decidable (BeforeP x y) := by unfold BeforeP; infer_instance
def AgreeFrom (x y : PcT) (s : Nat) : Prop := ∀ t : Nat, s ≤ t → t < x.f9.size → 0 ≤ x.f7 + t - y.f7 → x.f7 + t - y.f7 < (y.f9.size : Int) → bt x.f9 (t : Int) = bt y.f9 (x.f7 + t - y.f7)
def HeadP (l : List PcT) (i : Nat) : Prop := PieceP (pc l i) ∧ SameP (pc l i) (pc l 0) ∧ (0 < i → BeforeP (pc l (i - 1)) (pc l i))
def RightP (l : List PcT) (i : Nat) : Prop := HeadP l i ∧ ∀ j : Nat, j < i → AgreeFrom (pc l i) (pc l j) 0
def PileFrom (l : List PcT) (i : Nat) : Prop := ∀ j : Nat, i ≤ j → j < l.length → RightP l j
theorem PileFrom.step {l : List PcT} {i : Nat} (h : i < l.length) : PileFrom l i ↔ RightP l i ∧ PileFrom l (i + 1) := by
  constructor
  · exact fun H => ⟨H i (Nat.le_refl _) h, fun j h1 h2 => H j (by omega) h2⟩
  · rintro ⟨a, b⟩ j h1 h2
    by_cases e : j = i
    · subst e; exact a
    · exact b j (by omega) h2
theorem PieceP.told {x : PcT} (h : PieceP x) : 0 ≤ x.f7 ∧ x.f7 ≤ 60 ∧ x.f9.size ≤ 60 ∧ 0 < x.f9.size ∧ x.f7 + x.f9.size ≤ x.f8 ∧ x.f8 ≤ 60 ∧ 0 < x.f8 := by
  obtain ⟨h, h0⟩ := h
  unfold GoodP at h
  omega
theorem implWithin (a b c : Int) : impl_within.f a b c = some (decide (b ≤ a ∧ a ≤ c)) := by
  unfold impl_within.f
  by_cases h : b ≤ a <;> simp [h]
theorem implGood_no (a0 a1 : Int) (a2 : Bool) (a3 a4 a5 a6 a7 a8 : Int) (a9 : ByteArray) : Ev (fun k => impl_GoodBundle.j0 k true a0 a1 a2 a3 a4 a5 a6 a7 a8 a9) false := by
  refine Ev.step (fun k => by rw [impl_GoodBundle.j0]) ?_
  exact Ev.ite_pos rfl (Ev.now _)
theorem isEmpty_size (s : ByteArray) : s.toList.isEmpty = decide (s.size = 0) := by
  rw [ByteArray.toList_eq, ← size_data]
  cases s.data.toList <;> simp
theorem implGood_end (a0 a1 : Int) (a2 : Bool) (a3 a4 a5 a6 a7 a8 : Int) (a9 : ByteArray) (h8 : -9223372036854775808 ≤ a8 ∧ a8 ≤ 9223372036854775807) (h : a9.size ≤ 60) :
    Ev (fun k => impl_GoodBundle.j0 k (decide ((a9.size : Int) > 60)) a0 a1 a2 a3 a4 a5 a6 a7 a8 a9) (decide ((a8 = 0 ∧ a7 = 0) ∨ (1 ≤ a8 ∧ a8 ≤ 60 ∧ 0 ≤ a7 ∧ a7 + a9.size ≤ a8 ∧ 0 < a9.size))) := by
  rw [decide_eq_false (show ¬ (a9.size : Int) > 60 by omega)]
  refine Ev.step (fun k => by rw [impl_GoodBundle.j0]) ?_
  refine Ev.ite_neg (by simp) ?_
  by_cases hz : a8 = 0
  · refine Ev.ite_pos hz (Ev.now' ?_)
    rw [show (a7 == 0) = decide (a7 = 0) from rfl]
    exact decide_eq_decide.mpr (by omega)
  · refine Ev.ite_neg hz ?_
    rw [implWithin, implWithin, isEmpty_size]
    simp only [Option.bind_some, decide_eq_true_eq]
    by_cases h1 : 1 ≤ a8 ∧ a8 ≤ 60
    · refine Ev.ite_pos h1 ?_
      rw [w64 (by omega) (by omega)]
      by_cases h2 : 0 ≤ a7 ∧ a7 ≤ a8 - (a9.size : Int)
      · refine Ev.ite_pos h2 (Ev.now' ?_)
        by_cases h3 : a9.size = 0
        · rw [decide_eq_true h3, decide_eq_false (show ¬ _ by omega)]; rfl
        · rw [decide_eq_false h3, decide_eq_true (show _ by omega)]; rfl
      · refine Ev.ite_neg h2 (Ev.now' (decide_eq_false (by omega)).symm)
    · refine Ev.ite_neg h1 (Ev.now' (decide_eq_false (by omega)).symm)
theorem implGood (a0 a1 : Int) (a2 : Bool) (a3 a4 a5 a6 a7 a8 : Int) (a9 : ByteArray) (h8 : -9223372036854775808 ≤ a8 ∧ a8 ≤ 9223372036854775807) :
    Ev (fun k => impl_GoodBundle.f k a0 a1 a2 a3 a4 a5 a6 a7 a8 a9) (decide (GoodP a0 a1 a3 a4 a5 a6 a7 a8 a9.size)) := by
  have no : ¬ GoodP a0 a1 a3 a4 a5 a6 a7 a8 a9.size → Ev (fun k => impl_GoodBundle.j0 k true a0 a1 a2 a3 a4 a5 a6 a7 a8 a9) (decide (GoodP a0 a1 a3 a4 a5 a6 a7 a8 a9.size)) := fun h => by
    rw [decide_eq_false h]; exact implGood_no ..
  simp only [impl_GoodBundle.f, implWithin, Option.bind_some, decide_eq_true_eq]
  refine Ev.ite (fun h0 => ?_) fun h => no (by unfold GoodP; omega)
  refine Ev.ite (fun h1 => ?_) fun h => no (by unfold GoodP; omega)
  refine Ev.ite (fun h3 => ?_) fun h => no (by unfold GoodP; omega)
  refine Ev.ite (fun h4 => ?_) fun h => no (by unfold GoodP; omega)
  refine Ev.ite (fun h5 => ?_) fun h => no (by unfold GoodP; omega)
  refine Ev.ite (fun h6 => ?_) fun h => no (by unfold GoodP; omega)
  by_cases hn : a9.size ≤ 60
  · have e : decide (GoodP a0 a1 a3 a4 a5 a6 a7 a8 a9.size) = decide ((a8 = 0 ∧ a7 = 0) ∨ (1 ≤ a8 ∧ a8 ≤ 60 ∧ 0 ≤ a7 ∧ a7 + a9.size ≤ a8 ∧ 0 < a9.size)) :=
      decide_eq_decide.mpr (by unfold GoodP; omega)
    rw [e]
    exact implGood_end a0 a1 a2 a3 a4 a5 a6 a7 a8 a9 h8 hn
  · rw [decide_eq_true (show (a9.size : Int) > 60 by omega)]
    exact no (by unfold GoodP; omega)
def Rep (l : List PcT) (i : Nat) (kn : Int → Option Int) : Prop :=
  (∀ a c, kn a = some c → ∃ j : Nat, j < i ∧ ∃ t : Nat, t < (pc l j).f9.size ∧ (pc l j).f7 + t = a ∧ bt (pc l j).f9 (t : Int) = c) ∧
    ∀ j : Nat, j < i → ∀ t : Nat, t < (pc l j).f9.size → kn ((pc l j).f7 + t) = some (bt (pc l j).f9 (t : Int))
theorem gpIn_good (x : PcT) (hx : PieceP x) (d : Nat) : ∀ (j : Nat) (kn : Int → Option Int), j + d = x.f9.size → (∀ t : Nat, j ≤ t → t < x.f9.size → (kn (x.f7 + t)).getD (bt x.f9 (t : Int)) = bt x.f9 (t : Int)) →
    ∃ kn', gpIn x d (j : Int) kn = some kn' ∧ (∀ t : Nat, j ≤ t → t < x.f9.size → kn' (x.f7 + t) = some (bt x.f9 (t : Int))) ∧ ∀ a, (¬ ∃ t : Nat, j ≤ t ∧ t < x.f9.size ∧ a = x.f7 + t) → kn' a = kn a := by
  have tx := hx.told
  induction d with
  | zero => exact fun j kn hd _ => ⟨kn, rfl, fun t h1 h2 => by omega, fun a _ => rfl⟩
  | succ d ih =>
    intro j kn hd h
    have hw : wrap64 (x.f7 + (j : Int)) = x.f7 + j := w64 (by omega) (by omega)
    obtain ⟨kn', e, h1, h2⟩ := ih (j + 1) (fun y => if y = x.f7 + j then some (bt x.f9 (j : Int)) else kn y) (by omega) (fun t h3 h4 => by
      rw [if_neg (by omega)]
      exact h t (by omega) h4)
    refine ⟨kn', ?_, fun t h3 h4 => ?_, fun a ha => ?_⟩
    · rw [gpIn, hw, if_pos (h j (Nat.le_refl _) (by omega))]
      exact e
    · by_cases et : t = j
      · subst et
        rw [h2 _ (by rintro ⟨s, h5, h6, h7⟩; omega), if_pos rfl]
      · exact h1 t (by omega) h4
    · rw [h2 a (fun ⟨t, h5, h6, h7⟩ => ha ⟨t, by omega, h6, h7⟩), if_neg (fun e => ha ⟨j, Nat.le_refl _, by omega, e⟩)]
theorem gpIn_bad (x : PcT) (hx : PieceP x) (d : Nat) : ∀ (j : Nat) (kn : Int → Option Int), j + d = x.f9.size → (∃ t : Nat, j ≤ t ∧ t < x.f9.size ∧ (kn (x.f7 + t)).getD (bt x.f9 (t : Int)) ≠ bt x.f9 (t : Int)) → gpIn x d (j : Int) kn = none := by
  have tx := hx.told
  induction d with
  | zero => rintro j kn hd ⟨t, h1, h2, _⟩; omega
  | succ d ih =>
    rintro j kn hd ⟨t, h1, h2, h3⟩
    have hw : wrap64 (x.f7 + (j : Int)) = x.f7 + j := w64 (by omega) (by omega)
    rw [gpIn, hw]
    by_cases hj : (kn (x.f7 + j)).getD (bt x.f9 (j : Int)) = bt x.f9 (j : Int)
    · rw [if_pos hj]
      have hne : t ≠ j := by rintro rfl; exact h3 hj
      refine ih (j + 1) _ (by omega) ⟨t, by omega, h2, ?_⟩
      rw [if_neg (by omega)]
      exact h3
    · rw [if_neg hj]
theorem rep_agree {l : List PcT} {i : Nat} {kn : Int → Option Int} (h : Rep l i kn) (x : PcT) : (∀ t : Nat, t < x.f9.size → (kn (x.f7 + t)).getD (bt x.f9 (t : Int)) = bt x.f9 (t : Int)) ↔ ∀ j : Nat, j < i → AgreeFrom x (pc l j) 0 := by
  constructor
  · intro H j hj t _ ht h0 h1
    obtain ⟨k, hk⟩ := Int.eq_ofNat_of_zero_le h0
    have a := h.2 j hj k (by omega)
    have b := H t ht
    rw [show x.f7 + (t : Int) = (pc l j).f7 + k by omega, a] at b
    rw [hk]
    exact b.symm
  · intro H t ht
    cases hk : kn (x.f7 + t) with
    | none => rfl
    | some c =>
      obtain ⟨j, hj, s, hs, e1, e2⟩ := h.1 _ _ hk
      have := H j hj t (Nat.zero_le _) ht (by omega) (by omega)
      rw [this, show x.f7 + (t : Int) - (pc l j).f7 = s by omega, e2]
      rfl
theorem rep_next {l : List PcT} {i : Nat} {kn kn' : Int → Option Int} (h : Rep l i kn) (ha : ∀ j : Nat, j < i → AgreeFrom (pc l i) (pc l j) 0) (h1 : ∀ t : Nat, 0 ≤ t → t < (pc l i).f9.size → kn' ((pc l i).f7 + t) = some (bt (pc l i).f9 (t : Int)))
    (h2 : ∀ a, (¬ ∃ t : Nat, 0 ≤ t ∧ t < (pc l i).f9.size ∧ a = (pc l i).f7 + t) → kn' a = kn a) : Rep l (i + 1) kn' := by
  refine ⟨fun a c hc => ?_, fun j hj t ht => ?_⟩
  · by_cases hin : ∃ t : Nat, 0 ≤ t ∧ t < (pc l i).f9.size ∧ a = (pc l i).f7 + t
    · obtain ⟨t, _, ht, rfl⟩ := hin
      rw [h1 t (Nat.zero_le _) ht] at hc
      exact ⟨i, by omega, t, ht, rfl, Option.some.inj hc⟩
    · rw [h2 a hin] at hc
      obtain ⟨j, hj, r⟩ := h.1 a c hc
      exact ⟨j, by omega, r⟩
  · by_cases e : j = i
    · subst e; exact h1 t (Nat.zero_le _) ht
    · by_cases hin : ∃ s : Nat, 0 ≤ s ∧ s < (pc l i).f9.size ∧ (pc l j).f7 + t = (pc l i).f7 + s
      · obtain ⟨s, _, hs, e2⟩ := hin
        rw [e2, h1 s (Nat.zero_le _) hs]
        have := ha j (by omega) s (Nat.zero_le _) hs (by omega) (by omega)
        rw [this, show (pc l i).f7 + (s : Int) - (pc l j).f7 = t by omega]
      · rw [h2 _ hin]
        exact h.2 j (by omega) t ht
theorem piece_val (x : PcT) (h : -9223372036854775808 ≤ x.f8 ∧ x.f8 ≤ 9223372036854775807) : ∃ b : Bool, Ev (fun k => impl_isPiece.f k x.f0 x.f1 x.f2 x.f3 x.f4 x.f5 x.f6 x.f7 x.f8 x.f9) b ∧ (b = true ↔ PieceP x) := by
  have hg := implGood x.f0 x.f1 x.f2 x.f3 x.f4 x.f5 x.f6 x.f7 x.f8 x.f9 h
  by_cases h0 : GoodP x.f0 x.f1 x.f3 x.f4 x.f5 x.f6 x.f7 x.f8 x.f9.size
  · rw [decide_eq_true h0] at hg
    refine ⟨decide (x.f8 > 0), ?_, ?_⟩
    · simp only [impl_isPiece.f]
      exact Ev.bind hg (Ev.ite_pos rfl (Ev.now _))
    · rw [decide_eq_true_iff]
      refine ⟨fun h1 => ⟨h0, by omega⟩, fun h1 => ?_⟩
      have := PieceP.told h1
      omega
  · rw [decide_eq_false h0] at hg
    refine ⟨false, ?_, ⟨fun h1 => absurd h1 (by decide), fun h1 => absurd h1.1 h0⟩⟩
    simp only [impl_isPiece.f]
    exact Ev.bind hg (Ev.ite_neg (by decide) (Ev.now _))
theorem order_val (p x : PcT) (hp : PieceP p) (hx : PieceP x) : ∃ n : Int, impl_order.f p.f0 p.f1 p.f2 p.f3 p.f4 p.f5 p.f6 p.f7 p.f8 p.f9 x.f0 x.f1 x.f2 x.f3 x.f4 x.f5 x.f6 x.f7 x.f8 x.f9 = some n ∧ (n ≥ 0 ↔ ¬ BeforeP p x) := by
  have tp := hp.told
  have tx := hx.told
  unfold impl_order.f BeforeP
  by_cases h : p.f7 = x.f7
  · rw [if_pos h]
    refine ⟨_, rfl, ?_⟩
    rw [w64 (by omega) (by omega)]
    omega
  · rw [if_neg h]
    refine ⟨_, rfl, ?_⟩
    rw [w64 (by omega) (by omega)]
    omega
theorem implPile_go (l : List PcT) (hl : l.length ≤ 60) (h8 : ∀ j : Nat, j < l.length → -9223372036854775808 ≤ (pc l j).f8 ∧ (pc l j).f8 ≤ 9223372036854775807) (d : Nat) : ∀ (i : Nat) (kn : Int → Option Int), l.length - i = d → i ≤ l.length → (∀ j : Nat, j < i → PieceP (pc l j)) → Rep l i kn →
    ∃ b : Bool, Ev (fun k => impl_GoodPile.l0 k l (l.length : Int) (i : Int) l kn) b ∧ (b = true ↔ PileFrom l i) := by
  induction d with
  | zero =>
    intro i kn hd hi _ _
    exact ⟨true, Ev.step (fun k => by rw [impl_GoodPile.l0]) (Ev.ite_neg (by omega) (Ev.now _)), ⟨fun _ j h1 h2 => by omega, fun _ => rfl⟩⟩
  | succ d ih =>
    intro i kn hd hi hp hr
    have hlt : i < l.length := by omega
    obtain ⟨c, ec, hc⟩ := piece_val (pc l i) (h8 i hlt)
    have bad : Ev (fun k => impl_GoodPile.j1 k l (l.length : Int) (i : Int) true l kn) false := Ev.step (fun k => by rw [impl_GoodPile.j1]) (Ev.ite_pos rfl (Ev.now _))
    have out : ¬ HeadP l i → (false = true ↔ PileFrom l i) := fun h => ⟨fun x => absurd x (by decide), fun x => absurd ((PileFrom.step hlt).1 x).1.1 h⟩
    cases c with
    | false =>
      refine ⟨false, Ev.step (fun k => by rw [impl_GoodPile.l0]) (Ev.ite_pos (by omega) (Ev.ite_pos (by omega) (Ev.ite_pos (by omega) (Ev.bind ec ?_)))), out fun h => absurd (hc.2 h.1) (by decide)⟩
      exact Ev.ite_neg Bool.false_ne_true bad
    | true =>
      have hx : PieceP (pc l i) := hc.1 rfl
      have tx := hx.told
      have hsame : (!((pc l i).f0 == (pc l 0).f0) || (!((pc l i).f1 == (pc l 0).f1) || (!((pc l i).f2 == (pc l 0).f2) || (!((pc l i).f3 == (pc l 0).f3) || (!((pc l i).f4 == (pc l 0).f4) || (!((pc l i).f5 == (pc l 0).f5) || (!((0 : Int) == 0) || (!((0 : Int) == 0) || (!((pc l i).f8 == (pc l 0).f8) || (!((⟨#[]⟩ : ByteArray).toList == (⟨#[]⟩ : ByteArray).toList))))))))))) = !decide (SameP (pc l i) (pc l 0)) := by
        unfold SameP
        by_cases h0 : (pc l i).f0 = (pc l 0).f0 <;> by_cases h1 : (pc l i).f1 = (pc l 0).f1 <;> by_cases h2 : (pc l i).f2 = (pc l 0).f2 <;> by_cases h3 : (pc l i).f3 = (pc l 0).f3 <;> by_cases h4 : (pc l i).f4 = (pc l 0).f4 <;> by_cases h5 : (pc l i).f5 = (pc l 0).f5 <;> by_cases h6 : (pc l i).f8 = (pc l 0).f8 <;> simp [h0, h1, h2, h3, h4, h5, h6]
      have start : ∀ r, Ev (fun k => if (!decide (SameP (pc l i) (pc l 0))) = true then impl_GoodPile.j1 k l (l.length : Int) (i : Int) true l kn else (if (i : Int) > 0 then (if 0 ≤ (wrap64 ((i : Int) - 1)) then (if (wrap64 ((i : Int) - 1)) < (l.length : Int) then ((impl_order.f (rd_T46 l (wrap64 ((i : Int) - 1))).f0 (rd_T46 l (wrap64 ((i : Int) - 1))).f1 (rd_T46 l (wrap64 ((i : Int) - 1))).f2 (rd_T46 l (wrap64 ((i : Int) - 1))).f3 (rd_T46 l (wrap64 ((i : Int) - 1))).f4 (rd_T46 l (wrap64 ((i : Int) - 1))).f5 (rd_T46 l (wrap64 ((i : Int) - 1))).f6 (rd_T46 l (wrap64 ((i : Int) - 1))).f7 (rd_T46 l (wrap64 ((i : Int) - 1))).f8 (rd_T46 l (wrap64 ((i : Int) - 1))).f9 (pc l i).f0 (pc l i).f1 (pc l i).f2 (pc l i).f3 (pc l i).f4 (pc l i).f5 (pc l i).f6 (pc l i).f7 (pc l i).f8 (pc l i).f9).bind fun n => impl_GoodPile.j1 k l (l.length : Int) (i : Int) (decide (n ≥ 0)) l kn) else none) else none) else impl_GoodPile.j1 k l (l.length : Int) (i : Int) false l kn)) r →
          Ev (fun k => impl_GoodPile.l0 k l (l.length : Int) (i : Int) l kn) r := by
        intro r h
        refine Ev.step (fun k => by rw [impl_GoodPile.l0]) (Ev.ite_pos (by omega) (Ev.ite_pos (by omega) (Ev.ite_pos (by omega) (Ev.bind ec (Ev.ite_pos rfl ?_)))))
        simp only [impl_of.f, Option.bind_some]
        refine Ev.ite_pos (by omega) ?_
        rw [← hsame] at h
        exact h
      by_cases hs : SameP (pc l i) (pc l 0)
      case neg => exact ⟨false, start _ (Ev.ite_pos (by rw [decide_eq_false hs]; rfl) bad), out fun h => hs h.2.1⟩
      have hp' : ∀ j : Nat, j ≤ i → PieceP (pc l j) := fun j hj => by
        by_cases e : j = i
        · subst e; exact hx
        · exact hp j (by omega)
      have go : ∃ b : Bool, Ev (fun k => impl_GoodPile.j1 k l (l.length : Int) (i : Int) false l kn) b ∧ (b = true ↔ (∀ j : Nat, j < i → AgreeFrom (pc l i) (pc l j) 0) ∧ PileFrom l (i + 1)) := by
        have hw : wrap64 ((i : Int) + 1) = ((i + 1 : Nat) : Int) := by rw [w64 (by omega) (by omega)]; omega
        by_cases ha : ∀ t : Nat, t < (pc l i).f9.size → (kn ((pc l i).f7 + t)).getD (bt (pc l i).f9 (t : Int)) = bt (pc l i).f9 (t : Int)
        · obtain ⟨kn', e, k1, k2⟩ := gpIn_good (pc l i) hx (pc l i).f9.size 0 kn (by omega) (fun t _ ht => ha t ht)
          have ha' := (rep_agree hr (pc l i)).1 ha
          obtain ⟨b, eb, hb⟩ := ih (i + 1) kn' (by omega) (by omega) (fun j hj => hp' j (by omega)) (rep_next hr ha' k1 k2)
          refine ⟨b, Ev.step (fun k => by rw [impl_GoodPile.j1]) (Ev.ite_neg (by decide) (Ev.ite_pos tx.2.2.1 ?_)), hb.trans ⟨fun h => ⟨ha', h⟩, fun h => h.2⟩⟩
          have e' : gpIn (rd_T46 l (i : Int)) (rd_T46 l (i : Int)).f9.size 0 kn = some kn' := e
          rw [e', hw]
          exact Ev.ite_pos rfl eb
        · have hb : ∃ t : Nat, 0 ≤ t ∧ t < (pc l i).f9.size ∧ (kn ((pc l i).f7 + t)).getD (bt (pc l i).f9 (t : Int)) ≠ bt (pc l i).f9 (t : Int) := by
            exact Classical.byContradiction fun hn => ha fun t ht => Classical.byContradiction fun h => hn ⟨t, Nat.zero_le _, ht, h⟩
          have e := gpIn_bad (pc l i) hx (pc l i).f9.size 0 kn (by omega) hb
          refine ⟨false, Ev.step (fun k => by rw [impl_GoodPile.j1]) (Ev.ite_neg (by decide) (Ev.ite_pos tx.2.2.1 ?_)), ⟨fun h => absurd h (by decide), fun h => absurd ((rep_agree hr (pc l i)).2 h.1) ha⟩⟩
          have e' : gpIn (rd_T46 l (i : Int)) (rd_T46 l (i : Int)).f9.size 0 kn = none := e
          rw [e']
          exact Ev.ite_neg (by decide) (Ev.now _)
      obtain ⟨b, eb, hb⟩ := go
      by_cases hi0 : 0 < i
      · have hw : wrap64 ((i : Int) - 1) = ((i - 1 : Nat) : Int) := by rw [w64 (by omega) (by omega)]; omega
        obtain ⟨n, en, hn⟩ := order_val (pc l (i - 1)) (pc l i) (hp' (i - 1) (by omega)) hx
        by_cases hbf : BeforeP (pc l (i - 1)) (pc l i)
        · refine ⟨b, start b (Ev.ite_neg (by rw [decide_eq_true hs]; decide) ?_), hb.trans ?_⟩
          · rw [hw]
            refine Ev.ite_pos (by omega) (Ev.ite_pos (by omega) (Ev.ite_pos (by omega) (Ev.opt_bind en ?_)))
            rw [decide_eq_false (fun h => hn.1 h hbf)]
            exact eb
          · rw [PileFrom.step hlt]
            exact ⟨fun h => ⟨⟨⟨hx, hs, fun _ => hbf⟩, h.1⟩, h.2⟩, fun h => ⟨h.1.2, h.2⟩⟩
        · refine ⟨false, start _ (Ev.ite_neg (by rw [decide_eq_true hs]; decide) ?_), out fun h => hbf (h.2.2 hi0)⟩
          rw [hw]
          refine Ev.ite_pos (by omega) (Ev.ite_pos (by omega) (Ev.ite_pos (by omega) (Ev.opt_bind en ?_)))
          rw [decide_eq_true (hn.2 hbf)]
          exact bad
      · refine ⟨b, start b (Ev.ite_neg (by rw [decide_eq_true hs]; decide) (Ev.ite_neg (by omega) eb)), hb.trans ?_⟩
        rw [PileFrom.step hlt]
        exact ⟨fun h => ⟨⟨⟨hx, hs, fun h0 => absurd h0 hi0⟩, h.1⟩, h.2⟩, fun h => ⟨h.1.2, h.2⟩⟩
theorem implPile (l : List PcT) (h8 : ∀ j : Nat, j < l.length → -9223372036854775808 ≤ (pc l j).f8 ∧ (pc l j).f8 ≤ 9223372036854775807) : ∃ b : Bool, Ev (fun k => impl_GoodPile.f k l) b ∧ (b = true ↔ PileFrom l 0 ∧ l.length ≤ 60) := by
  simp only [impl_GoodPile.f]
  by_cases h : (l.length : Int) > 60
  · exact ⟨false, Ev.ite_pos h (Ev.now _), ⟨fun x => absurd x (by decide), fun x => by omega⟩⟩
  · obtain ⟨b, e, hb⟩ := implPile_go l (by omega) h8 _ 0 (fun _ => none) rfl (by omega) (fun j hj => by omega) ⟨fun a c h => by simp at h, fun j hj => by omega⟩
    exact ⟨b, Ev.ite_neg h e, hb.trans ⟨fun h' => ⟨h', by omega⟩, fun h' => h'.1⟩⟩
theorem compactUp (d : Array Int) (hd : ∀ i j, i < j → j < d.size → d[i]! ≤ d[j]!) : ∀ m, m ≤ d.size → (Go.Lib.compactUpTo d m).Pairwise (· < ·) ∧ (∀ a, a ∈ Go.Lib.compactUpTo d m ↔ ∃ j, j < m ∧ d[j]! = a) := by
  intro m
  induction m with
  | zero => exact fun _ => ⟨by simp [Go.Lib.compactUpTo], fun a => by simp [Go.Lib.compactUpTo]⟩
  | succ m ih =>
    intro hm
    obtain ⟨h1, h2⟩ := ih (by omega)
    rw [Go.Lib.compactUpTo_succ]
    by_cases hk : Go.Lib.keeps d m = true
    · rw [if_pos hk]
      refine ⟨List.pairwise_append.2 ⟨h1, List.pairwise_singleton _ _, fun a ha b hb => ?_⟩, fun a => ?_⟩
      · obtain rfl : b = d[m]! := by simpa using hb
        obtain ⟨j, hj, rfl⟩ := (h2 a).1 ha
        have hne : d[m - 1]! ≠ d[m]! := by
          simp [Go.Lib.keeps] at hk
          rcases hk with hk | hk
          · omega
          · first | exact fun e => hk e.symm | exact hk
        have l1 := hd (m - 1) m (by omega) (by omega)
        have l2 : d[j]! ≤ d[m - 1]! := by
          by_cases e : j = m - 1
          · rw [e]; exact Int.le_refl _
          · exact hd j (m - 1) (by omega) (by omega)
        omega
      · rw [List.mem_append, h2]
        constructor
        · rintro (⟨j, hj, e⟩ | h)
          · exact ⟨j, by omega, e⟩
          · exact ⟨m, by omega, (List.mem_singleton.1 h).symm⟩
        · rintro ⟨j, hj, e⟩
          by_cases ej : j = m
          · subst ej; exact .inr (by simp [e])
          · exact .inl ⟨j, by omega, e⟩
    · rw [if_neg hk, List.append_nil]
      refine ⟨h1, fun a => (h2 a).trans ⟨fun ⟨j, hj, e⟩ => ⟨j, by omega, e⟩, fun ⟨j, hj, e⟩ => ?_⟩⟩
      by_cases ej : j = m
      · subst ej
        have hk' : j ≠ 0 ∧ d[j]! = d[j - 1]! := by
          simp [Go.Lib.keeps] at hk
          omega
        exact ⟨j - 1, by omega, by rw [← hk'.2]; exact e⟩
      · exact ⟨j, by omega, e⟩
theorem compact_sorted (xs : List Int) : (Go.Lib.compact (xs.mergeSort fun x y => decide (x ≤ y))).Pairwise (· < ·) ∧ ∀ a, a ∈ Go.Lib.compact (xs.mergeSort fun x y => decide (x ≤ y)) ↔ a ∈ xs := by
  have hs := List.pairwise_mergeSort (le := fun x y : Int => decide (x ≤ y)) (fun a b c h1 h2 => by simp at *; omega) (fun a b => by simp; omega) xs
  generalize hz : (xs.mergeSort fun x y => decide (x ≤ y)) = zs at hs ⊢
  have hp : ∀ a, a ∈ zs ↔ a ∈ xs := fun a => by rw [← hz]; exact List.mem_mergeSort
  have hd : ∀ i j, i < j → j < zs.toArray.size → zs.toArray[i]! ≤ zs.toArray[j]! := fun i j hij hj => by
    have hj' : j < zs.length := by simpa using hj
    have := List.pairwise_iff_getElem.1 hs i j (by omega) hj' hij
    simpa [getElem!_pos, show i < zs.length by omega, hj'] using this
  obtain ⟨h1, h2⟩ := compactUp zs.toArray hd zs.length (by simp)
  refine ⟨h1, fun a => (h2 a).trans ⟨fun ⟨j, hj, e⟩ => (hp a).1 ?_, fun h => ?_⟩⟩
  · rw [← e]; simp [hj]
  · obtain ⟨j, hj, e⟩ := List.getElem_of_mem ((hp a).2 h)
    exact ⟨j, hj, by simpa [hj] using e⟩
theorem strict_uniq : ∀ (xs ys : List Int), xs.Pairwise (· < ·) → ys.Pairwise (· < ·) → (∀ a, a ∈ xs ↔ a ∈ ys) → xs = ys
  | [], [], _, _, _ => rfl
  | [], y :: ys, _, _, h => absurd ((h y).2 (by simp)) (by simp)
  | x :: xs, [], _, _, h => absurd ((h x).1 (by simp)) (by simp)
  | x :: xs, y :: ys, h1, h2, h => by
    rw [List.pairwise_cons] at h1 h2
    have e : x = y := by
      have a := (h x).1 (by simp)
      have b := (h y).2 (by simp)
      rcases List.mem_cons.1 a with a | a
      · exact a
      · rcases List.mem_cons.1 b with b | b
        · exact b.symm
        · have := h2.1 x a; have := h1.1 y b; omega
    subst e
    refine congrArg _ (strict_uniq xs ys h1.2 h2.2 fun a => ?_)
    constructor
    · intro ha
      rcases List.mem_cons.1 ((h a).1 (by simp [ha])) with e | e
      · have := h1.1 a ha; omega
      · exact e
    · intro ha
      rcases List.mem_cons.1 ((h a).2 (by simp [ha])) with e | e
      · have := h2.1 a ha; omega
      · exact e
def InP (x : PcT) (a : Int) : Prop := x.f7 ≤ a ∧ a < x.f7 + x.f9.size
theorem covIn_go (l : List PcT) (i : Nat) (hx : PieceP (pc l i)) (res : List Int → List Int) (hres : ∀ acc : List Int, acc.length ≤ 60 * (i + 1) → Ev (fun k => impl_Pile_covered.l0 k acc l (l.length : Int) (wrap64 ((i : Int) + 1))) (res acc)) (hi : i < 60) (d : Nat) :
    ∀ (t : Nat) (acc : List Int), t + d = (pc l i).f9.size → acc.length ≤ 60 * i + t → Ev (fun k => impl_Pile_covered.l1 k acc ((pc l i).f7 + t) l (l.length : Int) (i : Int) (pc l i).f0 (pc l i).f1 (pc l i).f2 (pc l i).f3 (pc l i).f4 (pc l i).f5 (pc l i).f6 (pc l i).f7 (pc l i).f8 (pc l i).f9) (res (acc ++ (List.range d).map fun s => (pc l i).f7 + ((t + s : Nat) : Int))) := by
  have tx := hx.told
  have hw : wrap64 ((pc l i).f7 + ((pc l i).f9.size : Int)) = (pc l i).f7 + ((pc l i).f9.size : Int) := w64 (by omega) (by omega)
  induction d with
  | zero =>
    intro t acc hd hl
    refine Ev.step (fun k => by rw [impl_Pile_covered.l1]) ?_
    simp only [impl_Bundle_end.f, Option.bind_some, hw]
    refine Ev.ite_neg (by omega) ?_
    simpa using hres acc (by omega)
  | succ d ih =>
    intro t acc hd hl
    have hw1 : wrap64 ((pc l i).f7 + (t : Int) + 1) = (pc l i).f7 + ((t + 1 : Nat) : Int) := by rw [w64 (by omega) (by omega)]; omega
    have := ih (t + 1) (acc ++ [(pc l i).f7 + (t : Int)]) (by omega) (by simp; omega)
    refine Ev.step (fun k => by rw [impl_Pile_covered.l1]) ?_
    simp only [impl_Bundle_end.f, Option.bind_some, hw]
    refine Ev.ite_pos (by omega) (Ev.ite_pos (by omega) ?_)
    rw [hw1]
    have e : (acc ++ [(pc l i).f7 + (t : Int)]) ++ (List.range d).map (fun s => (pc l i).f7 + ((t + 1 + s : Nat) : Int)) = acc ++ (List.range (d + 1)).map fun s => (pc l i).f7 + ((t + s : Nat) : Int) := by
      rw [List.range_succ_eq_map, List.map_cons, List.map_map, List.append_assoc]
      congr 1
      simp only [List.singleton_append, Nat.add_zero]
      congr 1
      refine List.map_congr_left fun s _ => ?_
      simp only [Function.comp]
      omega
    rw [← e]
    exact this
theorem cov_go (l : List PcT) (hl : l.length ≤ 60) (hp : ∀ j : Nat, j < l.length → PieceP (pc l j)) (d : Nat) : ∀ i : Nat, l.length - i = d → i ≤ l.length → ∃ res : List Int → List Int, (∀ acc : List Int, acc.length ≤ 60 * i → Ev (fun k => impl_Pile_covered.l0 k acc l (l.length : Int) (i : Int)) (res acc)) ∧
    (∀ acc a, a ∈ res acc ↔ a ∈ acc ∨ ∃ j : Nat, i ≤ j ∧ j < l.length ∧ InP (pc l j) a) ∧ ∀ acc, (res acc).length ≤ acc.length + 60 * (l.length - i) := by
  induction d with
  | zero =>
    intro i hd hi
    exact ⟨fun acc => acc, fun acc _ => Ev.step (fun k => by rw [impl_Pile_covered.l0]) (Ev.ite_neg (by omega) (Ev.now _)), fun acc a => ⟨.inl, fun h => h.elim id fun ⟨j, h1, h2, _⟩ => by omega⟩, fun acc => Nat.le_add_right _ _⟩
  | succ d ih =>
    intro i hd hi
    have hlt : i < l.length := by omega
    have hx := hp i hlt
    have tx := hx.told
    have hw : wrap64 ((i : Int) + 1) = ((i + 1 : Nat) : Int) := by rw [w64 (by omega) (by omega)]; omega
    obtain ⟨res, h1, h2, h3⟩ := ih (i + 1) (by omega) (by omega)
    refine ⟨fun acc => res (acc ++ (List.range (pc l i).f9.size).map fun s => (pc l i).f7 + ((0 + s : Nat) : Int)), fun acc ha => ?_, fun acc a => ?_, fun acc => ?_⟩
    · refine Ev.step (fun k => by rw [impl_Pile_covered.l0]) (Ev.ite_pos (by omega) (Ev.ite_pos (by omega) (Ev.ite_pos (by omega) ?_)))
      have := covIn_go l i hx res (fun acc' h' => by rw [hw]; exact h1 acc' h') (by omega) (pc l i).f9.size 0 acc (by omega) (by omega)
      simpa using this
    · rw [h2, List.mem_append, List.mem_map]
      constructor
      · rintro ((h | ⟨s, hs, rfl⟩) | ⟨j, h4, h5, h6⟩)
        · exact .inl h
        · have := List.mem_range.1 hs
          exact .inr ⟨i, Nat.le_refl _, hlt, by unfold InP; omega⟩
        · exact .inr ⟨j, by omega, h5, h6⟩
      · rintro (h | ⟨j, h4, h5, h6⟩)
        · exact .inl (.inl h)
        · by_cases e : j = i
          · subst e
            unfold InP at h6
            exact .inl (.inr ⟨(a - (pc l j).f7).toNat, List.mem_range.2 (by omega), by omega⟩)
          · exact .inr ⟨j, by omega, h5, h6⟩
    · refine Nat.le_trans (h3 _) ?_
      simp
      omega
theorem compact_le (zs : List Int) : (Go.Lib.compact zs).length ≤ zs.length := by
  unfold Go.Lib.compact Go.Lib.compactUpTo
  rw [List.length_map]
  exact Nat.le_trans (List.length_filter_le _ _) (by simp)
theorem implCovered_told (l : List PcT) (hl : l.length ≤ 60) (hp : ∀ j : Nat, j < l.length → PieceP (pc l j)) : ∃ xs : List Int, Ev (fun k => impl_Pile_covered.f k l) xs ∧ xs.Pairwise (· < ·) ∧ ∀ a, a ∈ xs ↔ ∃ j : Nat, j < l.length ∧ InP (pc l j) a := by
  obtain ⟨res, h1, h2, h3⟩ := cov_go l hl hp _ 0 rfl (by omega)
  obtain ⟨c1, c2⟩ := compact_sorted (res [])
  refine ⟨_, ?_, c1, fun a => (c2 a).trans ((h2 [] a).trans (by simp))⟩
  simp only [impl_Pile_covered.f]
  refine Ev.bind (h1 [] (by simp)) (Ev.ite_pos (by have := h3 []; simp at this; omega) (Ev.ite_pos (compact_le _) (Ev.now _)))
def PartOf (b x : PcT) : Prop := x.f0 = b.f0 ∧ x.f1 = b.f1 ∧ x.f2 = b.f2 ∧ x.f3 = b.f3 ∧ x.f4 = b.f4 ∧ x.f5 = b.f5 ∧ x.f6 = b.f6 ∧ x.f8 = (b.f9.size : Int) ∧ 0 ≤ x.f7 ∧ 0 < x.f9.size ∧ x.f7 + x.f9.size ≤ (b.f9.size : Int) ∧ ∀ t : Nat, t < x.f9.size → bt x.f9 (t : Int) = bt b.f9 (x.f7 + t)
def WholeP (b : PcT) : Prop := GoodP b.f0 b.f1 b.f3 b.f4 b.f5 b.f6 b.f7 b.f8 b.f9.size ∧ b.f8 = 0 ∧ b.f7 = 0 ∧ 0 < b.f9.size
theorem PartOf.piece {b x : PcT} (hb : WholeP b) (h : PartOf b x) : PieceP x := by
  obtain ⟨h0, h1, h2, h3, h4, h5, h6, h8, h7, hs, he, _⟩ := h
  obtain ⟨hg, _, _, _⟩ := hb
  unfold PieceP GoodP at *
  rw [h0, h1, h3, h4, h5, h6, h8]
  omega
theorem PartOf.same {b x y : PcT} (h : PartOf b x) (k : PartOf b y) : SameP x y := by
  obtain ⟨h0, h1, h2, h3, h4, h5, h6, h8, _⟩ := h
  obtain ⟨k0, k1, k2, k3, k4, k5, k6, k8, _⟩ := k
  exact ⟨h0.trans k0.symm, h1.trans k1.symm, h2.trans k2.symm, h3.trans k3.symm, h4.trans k4.symm, h5.trans k5.symm, h8.trans k8.symm⟩
theorem PartOf.agree {b x y : PcT} (h : PartOf b x) (k : PartOf b y) : AgreeFrom x y 0 := by
  intro t _ ht h0 h1
  obtain ⟨_, _, _, _, _, _, _, _, h7, _, _, hx⟩ := h
  obtain ⟨_, _, _, _, _, _, _, _, k7, _, _, ky⟩ := k
  obtain ⟨s, hs⟩ := Int.eq_ofNat_of_zero_le h0
  rw [hx t ht, hs, ky s (by omega), show y.f7 + (s : Int) = x.f7 + t by omega]
theorem str_bt {s t : ByteArray} (h : s.size = t.size) (hb : ∀ i : Nat, i < s.size → bt s (i : Int) = bt t (i : Int)) : s = t := by
  refine ByteArray.ext (Array.ext h fun i h1 h2 => ?_)
  have := hb i h1
  unfold bt at this
  have h1' : i < s.size := h1
  have h2' : i < t.size := h2
  simp only [Int.toNat_natCast, dif_pos h1', dif_pos h2'] at this
  have e : s[i].toNat = t[i].toNat := by omega
  exact UInt8.toNat_inj.1 e
theorem PartOf.eq {b x y : PcT} (h : PartOf b x) (k : PartOf b y) (e7 : x.f7 = y.f7) (e9 : x.f9.size = y.f9.size) : x = y := by
  obtain ⟨h0, h1, h2, h3, h4, h5, h6, h8, h7, hs, he, hx⟩ := h
  obtain ⟨k0, k1, k2, k3, k4, k5, k6, k8, k7, ks, ke, ky⟩ := k
  have e : x.f9 = y.f9 := str_bt e9 fun i hi => by rw [hx i hi, ky i (by omega), e7]
  cases x
  cases y
  simp only at *
  subst h0 h1 h2 h3 h4 h5 h6 k0 k1 k2 k3 k4 k5 k6 e7 e
  simp only [h8, k8]
theorem bt_part (s : ByteArray) (p q t : Nat) (hq : q ≤ s.size) (ht : p + t < q) : bt (s.extract p q) (t : Int) = bt s ((p : Int) + t) := by
  have h1 : t < (s.extract p q).size := by rw [ByteArray.size_extract]; omega
  have h2 : ((p : Int) + (t : Int)).toNat < s.size := by omega
  unfold bt
  simp only [Int.toNat_natCast, dif_pos h1, dif_pos h2]
  rw [ByteArray.getElem_extract]
  congr 2
theorem specIn (a b c : Int) : spec_l1In.f a b c = some (decide (b ≤ a ∧ a ≤ c)) := by
  unfold spec_l1In.f
  by_cases h : b ≤ a <;> simp [h]
theorem specGoodH (a0 a1 : Int) (a2 : Bool) (a3 a4 a5 a6 a7 a8 : Int) (a9 : ByteArray) :
    Ev (fun k => spec_GoodBundle.f k a0 a1 a2 a3 a4 a5 a6 a7 a8 a9) (decide (GoodP a0 a1 a3 a4 a5 a6 a7 a8 a9.size)) := by
  have no : ¬ GoodP a0 a1 a3 a4 a5 a6 a7 a8 a9.size → Ev (fun k => spec_GoodBundle.j0 k true a0 a1 a2 a3 a4 a5 a6 a7 a8 a9) (decide (GoodP a0 a1 a3 a4 a5 a6 a7 a8 a9.size)) := fun h => by
    rw [decide_eq_false h]; exact Ev.step (fun k => by rw [spec_GoodBundle.j0]) (Ev.ite_pos rfl (Ev.now _))
  simp only [spec_GoodBundle.f, specIn, Option.bind_some, decide_eq_true_eq]
  refine Ev.ite (fun h0 => ?_) fun h => no (by unfold GoodP; omega)
  refine Ev.ite (fun h1 => ?_) fun h => no (by unfold GoodP; omega)
  refine Ev.ite (fun h3 => ?_) fun h => no (by unfold GoodP; omega)
  refine Ev.ite (fun h4 => ?_) fun h => no (by unfold GoodP; omega)
  refine Ev.ite (fun h5 => ?_) fun h => no (by unfold GoodP; omega)
  refine Ev.ite (fun h6 => ?_) fun h => no (by unfold GoodP; omega)
  refine Ev.ite (fun hn => no (by unfold GoodP; omega)) fun hn => ?_
  refine Ev.ite (fun h8 => ?_) fun h => no (by unfold GoodP; omega)
  by_cases h7 : 0 ≤ a7 ∧ a7 ≤ a8
  case neg =>
    rw [decide_eq_false h7]
    exact no (by unfold GoodP; omega)
  rw [decide_eq_true h7]
  refine Ev.step (fun k => by rw [spec_GoodBundle.j0]) (Ev.ite_neg (by decide) ?_)
  refine Ev.ite (fun hz => Ev.now' (decide_eq_true (by unfold GoodP; omega)).symm) fun hz => ?_
  refine Ev.ite (fun hp => Ev.now' ?_) fun hp => Ev.now' (decide_eq_false (by unfold GoodP; omega)).symm
  rw [w64 (by omega) (by omega)]
  exact decide_eq_decide.mpr (by unfold GoodP; omega)
theorem cut_told_go (b : PcT) (h60 : b.f9.size ≤ 60) (most : Int) (m0 : 1 ≤ most) (m1 : most ≤ 60) (d : Nat) : ∀ (i : Nat) (out : List PcT), b.f9.size - i ≤ d → i ≤ 200 → out.length ≤ i → out.length ≤ 60 → (∀ x ∈ out, PartOf b x) → (∀ a : Int, 0 ≤ a → a < i → a < b.f9.size → ∃ x ∈ out, InP x a) →
    ∃ v : List PcT, v.length ≤ 60 ∧ Ev (fun k => spec_CutBundle.l0 k most out (i : Int) b.f0 b.f1 b.f2 b.f3 b.f4 b.f5 b.f6 0 0 b.f9) (v, true) ∧ Ev (fun k => impl_CutBundle.l0 k most (b.f9.size : Int) out (i : Int) b.f0 b.f1 b.f2 b.f3 b.f4 b.f5 b.f6 0 (b.f9.size : Int) b.f9) (v, true) ∧
      (∀ x ∈ v, PartOf b x) ∧ ∀ a : Int, 0 ≤ a → a < b.f9.size → ∃ x ∈ v, InP x a := by
  have stop : ∀ (i : Nat) (out : List PcT), ¬ i < b.f9.size → out.length ≤ 60 → (∀ x ∈ out, PartOf b x) → (∀ a : Int, 0 ≤ a → a < i → a < b.f9.size → ∃ x ∈ out, InP x a) → ∃ v : List PcT, v.length ≤ 60 ∧ Ev (fun k => spec_CutBundle.l0 k most out (i : Int) b.f0 b.f1 b.f2 b.f3 b.f4 b.f5 b.f6 0 0 b.f9) (v, true) ∧ Ev (fun k => impl_CutBundle.l0 k most (b.f9.size : Int) out (i : Int) b.f0 b.f1 b.f2 b.f3 b.f4 b.f5 b.f6 0 (b.f9.size : Int) b.f9) (v, true) ∧ (∀ x ∈ v, PartOf b x) ∧ ∀ a : Int, 0 ≤ a → a < b.f9.size → ∃ x ∈ v, InP x a := fun i out hlt ho2 hp hc =>
    ⟨out, ho2, Ev.step (fun k => by rw [spec_CutBundle.l0]) (Ev.ite_neg (by omega) (Ev.now _)), Ev.step (fun k => by rw [impl_CutBundle.l0]) (Ev.ite_neg (by omega) (Ev.now _)), hp, fun a h0 h1 => hc a h0 (by omega) h1⟩
  induction d with
  | zero =>
    intro i out hd hi ho ho2 hp hc
    exact stop i out (by omega) ho2 hp hc
  | succ d ih =>
    intro i out hd hi ho ho2 hp hc
    by_cases hlt : i < b.f9.size
    case neg => exact stop i out hlt ho2 hp hc
    obtain ⟨mm, rfl⟩ := Int.eq_ofNat_of_zero_le (show 0 ≤ most by omega)
    have c0 : (i : Int) < (b.f9.size : Int) := by omega
    have c1 : (0 : Int) ≤ (i : Int) := by omega
    have room : out.length < 1599289640401 := by omega
    have key : ∀ e : Nat, i < e → e ≤ b.f9.size → (i + mm ≤ e ∨ e = b.f9.size) → ∃ v : List PcT, v.length ≤ 60 ∧ Ev (fun k => spec_CutBundle.l0 k (mm : Int) (out ++ [⟨b.f0, b.f1, b.f2, b.f3, b.f4, b.f5, b.f6, (i : Int), (b.f9.size : Int), b.f9.extract i e⟩]) ((i + mm : Nat) : Int) b.f0 b.f1 b.f2 b.f3 b.f4 b.f5 b.f6 0 0 b.f9) (v, true) ∧ Ev (fun k => impl_CutBundle.l0 k (mm : Int) (b.f9.size : Int) (out ++ [⟨b.f0, b.f1, b.f2, b.f3, b.f4, b.f5, b.f6, (i : Int), (b.f9.size : Int), b.f9.extract i e⟩]) ((i + mm : Nat) : Int) b.f0 b.f1 b.f2 b.f3 b.f4 b.f5 b.f6 0 (b.f9.size : Int) b.f9) (v, true) ∧ (∀ x ∈ v, PartOf b x) ∧ ∀ a : Int, 0 ≤ a → a < b.f9.size → ∃ x ∈ v, InP x a := fun e h1 h2 h3 => by
      have hz : (b.f9.extract i e).size = e - i := by rw [ByteArray.size_extract]; omega
      refine ih (i + mm) _ (by omega) (by omega) (by rw [List.length_append, List.length_singleton]; omega) (by rw [List.length_append, List.length_singleton]; omega) ?_ ?_
      · intro x hx
        rcases List.mem_append.1 hx with hx | hx
        · exact hp x hx
        · rw [List.mem_singleton] at hx
          subst hx
          refine ⟨rfl, rfl, rfl, rfl, rfl, rfl, rfl, rfl, by simp only; omega, by simp only; omega, by simp only; omega, fun t ht => ?_⟩
          simp only at ht ⊢
          exact bt_part _ _ _ _ h2 (by omega)
      · intro a h4 h5 h6
        by_cases ha : a < i
        · obtain ⟨x, hx, hi⟩ := hc a h4 ha h6
          exact ⟨x, List.mem_append_left _ hx, hi⟩
        · refine ⟨_, List.mem_append_right _ (List.mem_singleton.2 rfl), ?_⟩
          unfold InP
          simp only
          omega
    have hw : wrap64 ((i : Int) + (mm : Int)) = ((i + mm : Nat) : Int) := by rw [w64 (by omega) (by omega)]; omega
    have hw0 : wrap64 (0 + (i : Int)) = (i : Int) := by rw [Int.zero_add]; exact w64 (by omega) (by omega)
    by_cases hg : b.f9.size < i + mm
    · have c2 : wrap64 ((i : Int) + (mm : Int)) > (b.f9.size : Int) := by rw [hw]; omega
      have c3 : (i : Int) ≤ (b.f9.size : Int) := by omega
      have hmn : mn (wrap64 ((i : Int) + (mm : Int))) (b.f9.size : Int) = (b.f9.size : Int) := by unfold mn; rw [hw]; exact if_pos (by omega)
      obtain ⟨v, hv, x, y, z⟩ := key b.f9.size (by omega) (Nat.le_refl _) (.inr rfl)
      refine ⟨v, hv, Ev.step (fun k => by rw [spec_CutBundle.l0]) (Ev.ite_pos c0 (Ev.step (fun k => by rw [spec_CutBundle.j2]) (Ev.ite_pos c2 (Ev.step (fun k => by rw [spec_CutBundle.j3]) ?_)))), Ev.step (fun k => by rw [impl_CutBundle.l0]) ?_, z⟩
      · rw [hw]
        simp only [Int.toNat_natCast]
        exact Ev.ite_pos c1 (Ev.ite_pos c3 (Ev.ite_pos (Int.le_refl _) (Ev.ite_pos room x)))
      · refine Ev.ite_pos c0 ?_
        simp only [impl_Bundle_cut.f, hmn, hw0, if_pos c1, if_pos c3, if_pos (Int.le_refl (b.f9.size : Int)), Option.bind_some, Int.toNat_natCast]
        rw [hw]
        exact Ev.ite_pos room y
    · have c2 : ¬ wrap64 ((i : Int) + (mm : Int)) > (b.f9.size : Int) := by rw [hw]; omega
      have c3 : (i : Int) ≤ ((i + mm : Nat) : Int) := by omega
      have c4 : ((i + mm : Nat) : Int) ≤ (b.f9.size : Int) := by omega
      have hmn : mn ((i + mm : Nat) : Int) (b.f9.size : Int) = ((i + mm : Nat) : Int) := by unfold mn; exact if_neg (by omega)
      obtain ⟨v, hv, x, y, z⟩ := key (i + mm) (by omega) (by omega) (.inl (Nat.le_refl _))
      refine ⟨v, hv, Ev.step (fun k => by rw [spec_CutBundle.l0]) (Ev.ite_pos c0 (Ev.step (fun k => by rw [spec_CutBundle.j2]) (Ev.ite_neg c2 (Ev.step (fun k => by rw [spec_CutBundle.j3]) ?_)))), Ev.step (fun k => by rw [impl_CutBundle.l0]) ?_, z⟩
      · rw [hw]
        simp only [Int.toNat_natCast]
        exact Ev.ite_pos c1 (Ev.ite_pos c3 (Ev.ite_pos c4 (Ev.ite_pos room x)))
      · refine Ev.ite_pos c0 ?_
        rw [hw]
        simp only [impl_Bundle_cut.f, hmn, hw0, if_pos c1, if_pos c3, if_pos c4, Option.bind_some, Int.toNat_natCast]
        exact Ev.ite_pos room y
theorem cut_told (b : PcT) (most : Int) (h8 : -9223372036854775808 ≤ b.f8 ∧ b.f8 ≤ 9223372036854775807) :
    ∃ (v : List PcT) (c : Bool), v.length ≤ 60 ∧ Ev (fun k => spec_CutBundle.f k b.f0 b.f1 b.f2 b.f3 b.f4 b.f5 b.f6 b.f7 b.f8 b.f9 most) (v, c) ∧ Ev (fun k => impl_CutBundle.f k b.f0 b.f1 b.f2 b.f3 b.f4 b.f5 b.f6 b.f7 b.f8 b.f9 most) (v, c) ∧
      (c = false → v = []) ∧ (c = true → WholeP b ∧ (∀ x ∈ v, PartOf b x) ∧ ∀ a : Int, 0 ≤ a → a < b.f9.size → ∃ x ∈ v, InP x a) := by
  have hi := implGood b.f0 b.f1 b.f2 b.f3 b.f4 b.f5 b.f6 b.f7 b.f8 b.f9 h8
  have hs := specGoodH b.f0 b.f1 b.f2 b.f3 b.f4 b.f5 b.f6 b.f7 b.f8 b.f9
  simp only [spec_CutBundle.f, impl_CutBundle.f, specIn, implWithin, Option.bind_some]
  have noS : Ev (fun k => spec_CutBundle.j0 k most true b.f0 b.f1 b.f2 b.f3 b.f4 b.f5 b.f6 b.f7 b.f8 b.f9) (([] : List PcT), false) := Ev.step (fun k => by rw [spec_CutBundle.j0]) (Ev.ite_pos rfl (Ev.now _))
  have noI : Ev (fun k => impl_CutBundle.j0 k most (b.f9.size : Int) true b.f0 b.f1 b.f2 b.f3 b.f4 b.f5 b.f6 b.f7 b.f8 b.f9) (([] : List PcT), false) := Ev.step (fun k => by rw [impl_CutBundle.j0]) (Ev.ite_pos rfl (Ev.now _))
  have he : b.f9.toList = ([] : List UInt8) ↔ b.f9.size = 0 := by rw [ByteArray.toList_eq, ← size_data, List.length_eq_zero_iff]
  have no2 : (false = false → ([] : List PcT) = []) ∧ (false = true → WholeP b ∧ (∀ x ∈ ([] : List PcT), PartOf b x) ∧ ∀ a : Int, 0 ≤ a → a < b.f9.size → ∃ x ∈ ([] : List PcT), InP x a) := ⟨fun _ => rfl, fun h => absurd h (by decide)⟩
  by_cases hg : GoodP b.f0 b.f1 b.f3 b.f4 b.f5 b.f6 b.f7 b.f8 b.f9.size
  case neg =>
    rw [decide_eq_false hg] at hi hs
    exact ⟨[], false, by simp, Ev.bind hs (Ev.ite_neg (by decide) noS), Ev.bind hi (Ev.ite_neg (by decide) noI), no2⟩
  rw [decide_eq_true hg] at hi hs
  have hg' := hg
  unfold GoodP at hg'
  by_cases h0 : b.f8 = 0
  case neg => exact ⟨[], false, by simp, Ev.bind hs (Ev.ite_pos rfl (Ev.ite_pos (by omega) noS)), Ev.bind hi (Ev.ite_pos rfl (Ev.ite_neg h0 noI)), no2⟩
  by_cases hz : b.f9.size = 0
  · exact ⟨[], false, by simp, Ev.bind hs (Ev.ite_pos rfl (Ev.ite_neg (by omega) (Ev.ite_pos (he.mpr hz) noS))), Ev.bind hi (Ev.ite_pos rfl (Ev.ite_pos h0 (Ev.ite_pos (by omega) noI))), no2⟩
  have hz1 : ¬ b.f9.toList = ([] : List UInt8) := fun e => hz (he.mp e)
  have hz2 : ¬ (b.f9.size : Int) = 0 := by omega
  have h01 : ¬ b.f8 > 0 := by omega
  have h7 : b.f7 = 0 := by omega
  have h60 : b.f9.size ≤ 60 := by omega
  by_cases hm : 1 ≤ most ∧ most ≤ 60
  case neg =>
    refine ⟨[], false, by simp, Ev.bind hs (Ev.ite_pos rfl (Ev.ite_neg h01 (Ev.ite_neg hz1 ?_))), Ev.bind hi (Ev.ite_pos rfl (Ev.ite_pos h0 (Ev.ite_neg hz2 ?_))), no2⟩
    · rw [decide_eq_false hm]; exact noS
    · rw [decide_eq_false hm]; exact noI
  obtain ⟨v, hv, x, y, z1, z2⟩ := cut_told_go b h60 most hm.1 hm.2 b.f9.size 0 [] (by omega) (by omega) (by simp) (by simp) (fun x hx => absurd hx (by simp)) (fun a h1 h2 => by omega)
  refine ⟨v, true, hv, Ev.bind hs (Ev.ite_pos rfl (Ev.ite_neg h01 (Ev.ite_neg hz1 ?_))), Ev.bind hi (Ev.ite_pos rfl (Ev.ite_pos h0 (Ev.ite_neg hz2 ?_))), fun h => absurd h (by decide), fun _ => ⟨⟨hg, h0, h7, by omega⟩, z1, z2⟩⟩
  · rw [decide_eq_true hm, h7, h0]
    refine Ev.step (fun k => by rw [spec_CutBundle.j0]) ?_
    exact Ev.ite_neg (by decide) x
  · rw [decide_eq_true hm, h7, h0]
    refine Ev.step (fun k => by rw [impl_CutBundle.j0]) ?_
    exact Ev.ite_neg (by decide) y
end Go.Proofs.Ytlkbbolkadkedaa.Pure
