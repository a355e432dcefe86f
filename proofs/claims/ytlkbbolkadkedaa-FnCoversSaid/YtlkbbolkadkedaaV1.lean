import Derived.Test.YtlkbbolkadkedaaQFnCoversx0
import Derived.Test.YtlkbbolkadkedaaQFnCoversx1
import Derived.Test.YtlkbbolkadkedaaQFnCoversx2
import Derived.Test.YtlkbbolkadkedaaQFnCoversx3
import Derived.Test.YtlkbbolkadkedaaQFnCoversx4
import Derived.Test.YtlkbbolkadkedaaQFnCoversx5
import Derived.Test.YtlkbbolkadkedaaQFnCoversx6
import Derived.Test.YtlkbbolkadkedaaQFnCoversx7
import Derived.Test.YtlkbbolkadkedaaQFnCoversx8
import Derived.Test.YtlkbbolkadkedaaQFnCoversx9
import Derived.Test.YtlkbbolkadkedaaQFnCoversx10
import Derived.Test.YtlkbbolkadkedaaQFnCoversx11
import Derived.Test.YtlkbbolkadkedaaQFnCoversx12
import Derived.Test.YtlkbbolkadkedaaQFnCoversx13
import Derived.Test.YtlkbbolkadkedaaQFnCoversx14
import Derived.Test.YtlkbbolkadkedaaQFnCoversx15
import Derived.Test.YtlkbbolkadkedaaQFnCoversx16
import Derived.Test.YtlkbbolkadkedaaQFnCoversx20
import Derived.Test.YtlkbbolkadkedaaPlain
set_option linter.unusedVariables false
set_option linter.unusedSimpArgs false
namespace Go.Proofs.Ytlkbbolkadkedaa.Pure
open Go.RowKit Go.Proofs.Ytlkbbolkadkedaa.QFnCovers Go.Proofs.YtlkbbolkadkedaaW.PrintWords Go.Proofs.YtlkbbolkadkedaaW.PrintLast Go.Proofs.Ytlkbbolkadkedaa.Plain
def GoodP (f t mk no life hops off tot : Int) (n : Nat) : Prop :=
  (0 ≤ f ∧ f ≤ 40) ∧ (0 ≤ t ∧ t ≤ 40) ∧ (0 ≤ mk ∧ mk ≤ 1000000) ∧ (0 ≤ no ∧ no ≤ 1000) ∧ (1 ≤ life ∧ life ≤ 1000000) ∧ (0 ≤ hops ∧ hops ≤ 30) ∧ n ≤ 60 ∧
    ((tot = 0 ∧ off = 0) ∨ (1 ≤ tot ∧ tot ≤ 60 ∧ 0 ≤ off ∧ off + n ≤ tot ∧ 0 < n))
instance (f t mk no life hops off tot : Int) (n : Nat) : Decidable (GoodP f t mk no life hops off tot n) := by unfold GoodP; infer_instance
abbrev PcT := S46
abbrev pc (l : List PcT) (i : Nat) : PcT := rd_T46 l (i : Int)
def PieceP (x : PcT) : Prop := GoodP x.f0 x.f1 x.f3 x.f4 x.f5 x.f6 x.f7 x.f8 x.f9.size ∧ x.f8 ≠ 0
def SameP (x y : PcT) : Prop := x.f0 = y.f0 ∧ x.f1 = y.f1 ∧ x.f2 = y.f2 ∧ x.f3 = y.f3 ∧ x.f4 = y.f4 ∧ x.f5 = y.f5 ∧ x.f8 = y.f8
instance (x y : PcT) : Decidable (SameP x y) := by unfold SameP; infer_instance
def BeforeP (x y : PcT) : Prop := x.f7 < y.f7 ∨ (x.f7 = y.f7 ∧ x.f9.size < y.f9.size)
instance (x y : PcT) : Decidable (BeforeP x y) := by unfold BeforeP; infer_instance
def AgreeFrom (x y : PcT) (s : Nat) : Prop := ∀ t : Nat, s ≤ t → t < x.f9.size → 0 ≤ x.f7 + t - y.f7 → x.f7 + t - y.f7 < (y.f9.size : Int) → bt x.f9 (t : Int) = bt y.f9 (x.f7 + t - y.f7)
def HeadP (l : List PcT) (i : Nat) : Prop := PieceP (pc l i) ∧ SameP (pc l i) (pc l 0) ∧ (0 < i → BeforeP (pc l (i - 1)) (pc l i))
def RightP (l : List PcT) (i : Nat) : Prop := HeadP l i ∧ ∀ j : Nat, j < i → AgreeFrom (pc l i) (pc l j) 0
def PileFrom (l : List PcT) (i : Nat) : Prop := ∀ j : Nat, i ≤ j → j < l.length → RightP l j
theorem PileFrom.step {l : List PcT} {i : Nat} (h : i < l.length) : PileFrom l i ↔ RightP l i ∧ PileFrom l (i + 1) := by
  constructor
  · exact fun H => ⟨H i (Nat.le_refl _) h, fun j h1 h2 => H j (by omega) h2⟩
  · rintro ⟨a, b⟩ j h1 h2
    by_cases e : j = i
    · subst e; exact a
    · exact b j (by omega) h2
theorem PieceP.told {x : PcT} (h : PieceP x) : 0 ≤ x.f7 ∧ x.f7 ≤ 60 ∧ x.f9.size ≤ 60 ∧ 0 < x.f9.size ∧ x.f7 + x.f9.size ≤ x.f8 ∧ x.f8 ≤ 60 ∧ 0 < x.f8 := by
  obtain ⟨h, h0⟩ := h
  unfold GoodP at h
  omega
theorem specIn (a b c : Int) : spec_l1In.f a b c = some (decide (b ≤ a ∧ a ≤ c)) := by
  unfold spec_l1In.f
  by_cases h : b ≤ a <;> simp [h]
theorem specGoodH (a0 a1 : Int) (a2 : Bool) (a3 a4 a5 a6 a7 a8 : Int) (a9 : ByteArray) :
    Ev (fun k => spec_GoodBundle.f k a0 a1 a2 a3 a4 a5 a6 a7 a8 a9) (decide (GoodP a0 a1 a3 a4 a5 a6 a7 a8 a9.size)) := by
  have no : ¬ GoodP a0 a1 a3 a4 a5 a6 a7 a8 a9.size → Ev (fun k => spec_GoodBundle.j0 k true a0 a1 a2 a3 a4 a5 a6 a7 a8 a9) (decide (GoodP a0 a1 a3 a4 a5 a6 a7 a8 a9.size)) := fun h => by
    rw [decide_eq_false h]; exact Ev.step (fun k => by rw [spec_GoodBundle.j0]) (Ev.ite_pos rfl (Ev.now _))
  simp only [spec_GoodBundle.f, specIn, Option.bind_some, decide_eq_true_eq]
  refine Ev.ite (fun h0 => ?_) fun h => no (by unfold GoodP; omega)
  refine Ev.ite (fun h1 => ?_) fun h => no (by unfold GoodP; omega)
  refine Ev.ite (fun h3 => ?_) fun h => no (by unfold GoodP; omega)
  refine Ev.ite (fun h4 => ?_) fun h => no (by unfold GoodP; omega)
  refine Ev.ite (fun h5 => ?_) fun h => no (by unfold GoodP; omega)
  refine Ev.ite (fun h6 => ?_) fun h => no (by unfold GoodP; omega)
  refine Ev.ite (fun hn => no (by unfold GoodP; omega)) fun hn => ?_
  refine Ev.ite (fun h8 => ?_) fun h => no (by unfold GoodP; omega)
  by_cases h7 : 0 ≤ a7 ∧ a7 ≤ a8
  case neg =>
    rw [decide_eq_false h7]
    exact no (by unfold GoodP; omega)
  rw [decide_eq_true h7]
  refine Ev.step (fun k => by rw [spec_GoodBundle.j0]) (Ev.ite_neg (by decide) ?_)
  refine Ev.ite (fun hz => Ev.now' (decide_eq_true (by unfold GoodP; omega)).symm) fun hz => ?_
  refine Ev.ite (fun hp => Ev.now' ?_) fun hp => Ev.now' (decide_eq_false (by unfold GoodP; omega)).symm
  rw [w64 (by omega) (by omega)]
  exact decide_eq_decide.mpr (by unfold GoodP; omega)
theorem cutSpec_go (b : PcT) (h60 : b.f9.size ≤ 60) (most : Int) (m0 : 1 ≤ most) (m1 : most ≤ 60) (d : Nat) : ∀ (i : Nat) (out : List PcT), b.f9.size - i ≤ d → i ≤ 200 → out.length ≤ i → out.length ≤ 60 →
    ∃ v : List PcT, v.length ≤ 60 ∧ out.length ≤ v.length ∧ (i < b.f9.size → 0 < v.length) ∧ Ev (fun k => spec_CutBundle.l0 k most out (i : Int) b.f0 b.f1 b.f2 b.f3 b.f4 b.f5 b.f6 0 0 b.f9) (v, true) ∧ ∀ y ∈ v, y ∈ out ∨ y.f8 = (b.f9.size : Int) := by
  have stop : ∀ (i : Nat) (out : List PcT), ¬ i < b.f9.size → out.length ≤ 60 → ∃ v : List PcT, v.length ≤ 60 ∧ out.length ≤ v.length ∧ (i < b.f9.size → 0 < v.length) ∧ Ev (fun k => spec_CutBundle.l0 k most out (i : Int) b.f0 b.f1 b.f2 b.f3 b.f4 b.f5 b.f6 0 0 b.f9) (v, true) ∧ ∀ y ∈ v, y ∈ out ∨ y.f8 = (b.f9.size : Int) := fun i out hlt ho2 =>
    ⟨out, ho2, Nat.le_refl _, fun h => absurd h hlt, Ev.step (fun k => by rw [spec_CutBundle.l0]) (Ev.ite_neg (by omega) (Ev.now _)), fun y h => .inl h⟩
  induction d with
  | zero =>
    intro i out hd hi ho ho2
    exact stop i out (by omega) ho2
  | succ d ih =>
    intro i out hd hi ho ho2
    by_cases hlt : i < b.f9.size
    case neg => exact stop i out hlt ho2
    obtain ⟨mm, rfl⟩ := Int.eq_ofNat_of_zero_le (show 0 ≤ most by omega)
    have c0 : (i : Int) < (b.f9.size : Int) := by omega
    have c1 : (0 : Int) ≤ (i : Int) := by omega
    have room : out.length < 1599289640401 := by omega
    have key : ∀ e : Nat, ∃ v : List PcT, v.length ≤ 60 ∧ out.length ≤ v.length ∧ (i < b.f9.size → 0 < v.length) ∧ Ev (fun k => spec_CutBundle.l0 k (mm : Int) (out ++ [⟨b.f0, b.f1, b.f2, b.f3, b.f4, b.f5, b.f6, (i : Int), (b.f9.size : Int), b.f9.extract i e⟩]) ((i + mm : Nat) : Int) b.f0 b.f1 b.f2 b.f3 b.f4 b.f5 b.f6 0 0 b.f9) (v, true) ∧ ∀ y ∈ v, y ∈ out ∨ y.f8 = (b.f9.size : Int) := fun e => by
      obtain ⟨v, a1, a2, _, a3, a4⟩ := ih (i + mm) (out ++ [⟨b.f0, b.f1, b.f2, b.f3, b.f4, b.f5, b.f6, (i : Int), (b.f9.size : Int), b.f9.extract i e⟩]) (by omega) (by omega) (by rw [List.length_append, List.length_singleton]; omega) (by rw [List.length_append, List.length_singleton]; omega)
      rw [List.length_append, List.length_singleton] at a2
      refine ⟨v, a1, by omega, fun _ => by omega, a3, fun y hy => ?_⟩
      rcases a4 y hy with h | h
      · rcases List.mem_append.1 h with h | h
        · exact .inl h
        · rw [List.mem_singleton] at h
          subst h
          exact .inr rfl
      · exact .inr h
    have hw : wrap64 ((i : Int) + (mm : Int)) = ((i + mm : Nat) : Int) := by rw [w64 (by omega) (by omega)]; omega
    by_cases hg : b.f9.size < i + mm
    · have c2 : wrap64 ((i : Int) + (mm : Int)) > (b.f9.size : Int) := by rw [hw]; omega
      have c3 : (i : Int) ≤ (b.f9.size : Int) := by omega
      obtain ⟨v, h1, h2, h3, x, z⟩ := key b.f9.size
      refine ⟨v, h1, h2, h3, Ev.step (fun k => by rw [spec_CutBundle.l0]) (Ev.ite_pos c0 (Ev.step (fun k => by rw [spec_CutBundle.j2]) (Ev.ite_pos c2 (Ev.step (fun k => by rw [spec_CutBundle.j3]) ?_)))), z⟩
      rw [hw]
      simp only [Int.toNat_natCast]
      exact Ev.ite_pos c1 (Ev.ite_pos c3 (Ev.ite_pos (Int.le_refl _) (Ev.ite_pos room x)))
    · have c2 : ¬ wrap64 ((i : Int) + (mm : Int)) > (b.f9.size : Int) := by rw [hw]; omega
      have c3 : (i : Int) ≤ ((i + mm : Nat) : Int) := by omega
      have c4 : ((i + mm : Nat) : Int) ≤ (b.f9.size : Int) := by omega
      obtain ⟨v, h1, h2, h3, x, z⟩ := key (i + mm)
      refine ⟨v, h1, h2, h3, Ev.step (fun k => by rw [spec_CutBundle.l0]) (Ev.ite_pos c0 (Ev.step (fun k => by rw [spec_CutBundle.j2]) (Ev.ite_neg c2 (Ev.step (fun k => by rw [spec_CutBundle.j3]) ?_)))), z⟩
      rw [hw]
      simp only [Int.toNat_natCast]
      exact Ev.ite_pos c1 (Ev.ite_pos c3 (Ev.ite_pos c4 (Ev.ite_pos room x)))
theorem cutSpec_told (b : PcT) (most : Int) :
    ∃ (v : List PcT) (c : Bool), v.length ≤ 60 ∧ (c = true → 0 < v.length) ∧ Ev (fun k => spec_CutBundle.f k b.f0 b.f1 b.f2 b.f3 b.f4 b.f5 b.f6 b.f7 b.f8 b.f9 most) (v, c) ∧ ∀ y ∈ v, 0 ≤ y.f8 ∧ y.f8 ≤ 60 := by
  have hs := specGoodH b.f0 b.f1 b.f2 b.f3 b.f4 b.f5 b.f6 b.f7 b.f8 b.f9
  simp only [spec_CutBundle.f, specIn, Option.bind_some]
  have noS : Ev (fun k => spec_CutBundle.j0 k most true b.f0 b.f1 b.f2 b.f3 b.f4 b.f5 b.f6 b.f7 b.f8 b.f9) (([] : List PcT), false) := Ev.step (fun k => by rw [spec_CutBundle.j0]) (Ev.ite_pos rfl (Ev.now _))
  have he : b.f9.toList = ([] : List UInt8) ↔ b.f9.size = 0 := by rw [ByteArray.toList_eq, ← size_data, List.length_eq_zero_iff]
  have no : ∀ {f : Nat → Option (List PcT × Bool)}, Ev f (([] : List PcT), false) → ∃ (v : List PcT) (c : Bool), v.length ≤ 60 ∧ (c = true → 0 < v.length) ∧ Ev f (v, c) ∧ ∀ y ∈ v, 0 ≤ y.f8 ∧ y.f8 ≤ 60 := fun h => ⟨[], false, by simp, fun h => absurd h (by decide), h, fun y hy => absurd hy (by simp)⟩
  by_cases hg : GoodP b.f0 b.f1 b.f3 b.f4 b.f5 b.f6 b.f7 b.f8 b.f9.size
  case neg =>
    rw [decide_eq_false hg] at hs
    exact no (Ev.bind hs (Ev.ite_neg (by decide) noS))
  rw [decide_eq_true hg] at hs
  have hg' := hg
  unfold GoodP at hg'
  by_cases h0 : b.f8 = 0
  case neg => exact no (Ev.bind hs (Ev.ite_pos rfl (Ev.ite_pos (by omega) noS)))
  by_cases hz : b.f9.size = 0
  · exact no (Ev.bind hs (Ev.ite_pos rfl (Ev.ite_neg (by omega) (Ev.ite_pos (he.mpr hz) noS))))
  have hz1 : ¬ b.f9.toList = ([] : List UInt8) := fun e => hz (he.mp e)
  have h01 : ¬ b.f8 > 0 := by omega
  have h7 : b.f7 = 0 := by omega
  have h60 : b.f9.size ≤ 60 := by omega
  by_cases hm : 1 ≤ most ∧ most ≤ 60
  case neg =>
    refine no (Ev.bind hs (Ev.ite_pos rfl (Ev.ite_neg h01 (Ev.ite_neg hz1 ?_))))
    rw [decide_eq_false hm]; exact noS
  obtain ⟨v, hv, _, hv0, x, z⟩ := cutSpec_go b h60 most hm.1 hm.2 b.f9.size 0 [] (by omega) (by omega) (by simp) (by simp)
  refine ⟨v, true, hv, fun _ => hv0 (by omega), Ev.bind hs (Ev.ite_pos rfl (Ev.ite_neg h01 (Ev.ite_neg hz1 ?_))), fun y hy => ?_⟩
  · rw [decide_eq_true hm, h7, h0]
    refine Ev.step (fun k => by rw [spec_CutBundle.j0]) ?_
    exact Ev.ite_neg (by decide) x
  · rcases z y hy with h | h
    · exact absurd h (by simp)
    · rw [h]; omega
end Go.Proofs.Ytlkbbolkadkedaa.Pure
