/- What the printed program answers at this law is true, for every argument. -/
import Derived.Test.YtkljbkminihlbaaQFnExactItemsBytesx5
import Derived.Test.YtkljbkminihlbaaPlain
import Derived.Test.YtkljbkminihlbaaGoalFnExactItemsBytes
set_option linter.unusedVariables false
set_option linter.unusedSimpArgs false
namespace Go.Proofs.Ytkljbkminihlbaa.Pure
open Go.RowKit Go.Proofs.Ytkljbkminihlbaa.QFnExactItemsBytes Go.Proofs.YtkljbkminihlbaaW.PrintWords Go.Proofs.YtkljbkminihlbaaW.PrintLast Go.Proofs.Ytkljbkminihlbaa.Plain Go.Proofs.Ytkljbkminihlbaa.GoalFnExactItemsBytes

/-- An item's text, from a place on, of signs that may be written. -/
def SignsFrom (s : ByteArray) (i : Nat) : Prop := ∀ j : Nat, i ≤ j → j < s.size → 32 ≤ bt s (j : Int) ∧ bt s (j : Int) ≤ 126
theorem SignsFrom.step {s : ByteArray} {i : Nat} (h : i < s.size) : SignsFrom s i ↔ (32 ≤ bt s (i : Int) ∧ bt s (i : Int) ≤ 126) ∧ SignsFrom s (i + 1) := by
  constructor
  · exact fun H => ⟨H i (by omega) h, fun j h1 h2 => H j (by omega) h2⟩
  · rintro ⟨a, b⟩ j h1 h2
    by_cases e : j = i
    · subst e; exact a
    · exact b j (by omega) h2
/-- A single item is right; a list's number of values is at most 40. -/
def OkItem (f0 f1 : Int) (f2 : ByteArray) (f3 : Int) : Prop :=
  (f0 = 1 ∧ 0 ≤ f1 ∧ f1 ≤ 1000000000 ∧ f2.size = 0 ∧ f3 = 0) ∨ (f0 = 2 ∧ f2.size ≤ 60 ∧ f1 = 0 ∧ f3 = 0) ∨ (f0 = 3 ∧ SignsFrom f2 0 ∧ f2.size ≤ 60 ∧ f1 = 0 ∧ f3 = 0) ∨ (f0 = 4 ∧ 0 ≤ f3 ∧ f3 ≤ 40 ∧ f1 = 0 ∧ f2.size = 0)
theorem toList_nil_iff (s : ByteArray) : s.toList = ([] : List UInt8) ↔ s.size = 0 := by
  rw [ByteArray.toList_eq, ← size_data, List.length_eq_zero_iff]
theorem implWithin (a b c : Int) : impl_within.f a b c = some (decide (b ≤ a ∧ a ≤ c)) := by
  unfold impl_within.f
  by_cases h : b ≤ a <;> simp [h]
theorem implValue (a : Int) : impl_isValue.f a = some (decide (0 ≤ a ∧ a ≤ 1000000000)) := by
  simp [impl_isValue.f, implWithin]
theorem implText_go (f0 f1 : Int) (s : ByteArray) (f3 : Int) (hs : s.size ≤ 4611686018427387904) (m : Nat) (hm : m = min s.size 61) (d : Nat) : ∀ i : Nat, i ≤ m → m - i = d →
    ∃ b : Bool, Ev (fun k => impl_itemOK.l0 k (m : Int) (i : Int) f0 f1 s f3) b ∧ (b = true ↔ (SignsFrom s i ∧ s.size ≤ 60 ∧ f1 = 0 ∧ f3 = 0)) := by
  induction d with
  | zero =>
    intro i h0 hd
    obtain rfl : i = m := by omega
    by_cases h60 : s.size ≤ 60
    · have hs0 : SignsFrom s i := fun j h1 h2 => by omega
      by_cases h1 : f1 = 0
      · refine ⟨f3 == 0, ?_, by simp [hs0, h60, h1]⟩
        refine Ev.step (fun k => by rw [impl_itemOK.l0]) ?_
        exact Ev.ite_neg (by omega) (Ev.ite_pos (by omega) (Ev.ite_pos h1 (Ev.now _)))
      · refine ⟨false, ?_, by simp [h1]⟩
        refine Ev.step (fun k => by rw [impl_itemOK.l0]) ?_
        exact Ev.ite_neg (by omega) (Ev.ite_pos (by omega) (Ev.ite_neg h1 (Ev.now _)))
    · refine ⟨false, ?_, by simp [h60]⟩
      refine Ev.step (fun k => by rw [impl_itemOK.l0]) ?_
      exact Ev.ite_neg (by omega) (Ev.ite_neg (by omega) (Ev.now _))
  | succ d ih =>
    intro i h0 hd
    have hi : i < s.size := by omega
    have hb := bt_range s (i : Int)
    have hw : wrap64 ((i : Int) + 1) = ((i + 1 : Nat) : Int) := by rw [w64 (by omega) (by omega)]; omega
    have hwb : wrap64 (bt s (i : Int)) = bt s (i : Int) := w64 (by omega) (by omega)
    have hp : (i : Int) < (m : Int) := by omega
    have hz : (0 : Int) ≤ (i : Int) := by omega
    have hl : (i : Int) < (s.size : Int) := by omega
    obtain ⟨b, x, y⟩ := ih (i + 1) (by omega) (by omega)
    by_cases hr : 32 ≤ bt s (i : Int) ∧ bt s (i : Int) ≤ 126
    · refine ⟨b, ?_, by rw [y, SignsFrom.step hi]; simp [hr]⟩
      refine Ev.step (fun k => by rw [impl_itemOK.l0]) ?_
      refine Ev.ite_pos hp (Ev.ite_pos hz (Ev.ite_pos hl ?_))
      rw [hwb, implWithin]
      simp only [Option.bind_some, hr, and_self, decide_true, if_true]
      rw [hw]; exact x
    · refine ⟨false, ?_, by rw [SignsFrom.step hi]; simp [hr]⟩
      refine Ev.step (fun k => by rw [impl_itemOK.l0]) ?_
      refine Ev.ite_pos hp (Ev.ite_pos hz (Ev.ite_pos hl ?_))
      rw [hwb, implWithin]
      simp only [Option.bind_some, hr, decide_false]
      exact Ev.ite_neg (by simp) (Ev.now _)
theorem implItemOK (f0 f1 : Int) (s : ByteArray) (f3 : Int) (hs : s.size ≤ 4611686018427387904) : ∃ b : Bool, Ev (fun k => impl_itemOK.f k f0 f1 s f3) b ∧ (b = true ↔ OkItem f0 f1 s f3) := by
  simp only [impl_itemOK.f, implValue, implWithin, Option.bind_some, decide_eq_true_eq, toList_nil_iff]
  by_cases h1 : f0 = 1
  · subst h1
    simp only [if_true]
    by_cases hv : 0 ≤ f1 ∧ f1 ≤ 1000000000
    · by_cases ht : s.size = 0
      · exact ⟨f3 == 0, Ev.ite_pos hv (Ev.ite_pos ht (Ev.now _)), by simp [OkItem, hv, ht]⟩
      · exact ⟨false, Ev.ite_pos hv (Ev.ite_neg ht (Ev.now _)), by simp [OkItem, ht]⟩
    · exact ⟨false, Ev.ite_neg hv (Ev.now _), by simp [OkItem]; omega⟩
  · simp only [if_neg h1]
    by_cases h3 : f0 = 3
    · subst h3
      simp only [if_true]
      have e : mn (s.size : Int) 61 = ((min s.size 61 : Nat) : Int) := by unfold mn; split <;> omega
      rw [e]
      obtain ⟨b, x, y⟩ := implText_go 3 f1 s f3 hs (min s.size 61) rfl _ 0 (by omega) rfl
      exact ⟨b, x, by rw [y]; simp [OkItem]⟩
    · simp only [if_neg h3]
      by_cases h2 : f0 = 2
      · subst h2
        simp only [if_true]
        by_cases h60 : s.size ≤ 60
        · by_cases hn : f1 = 0
          · exact ⟨f3 == 0, Ev.ite_pos (by omega) (Ev.ite_pos hn (Ev.now _)), by simp [OkItem, h60, hn]⟩
          · exact ⟨false, Ev.ite_pos (by omega) (Ev.ite_neg hn (Ev.now _)), by simp [OkItem, hn]⟩
        · exact ⟨false, Ev.ite_neg (by omega) (Ev.now _), by simp [OkItem, h60]⟩
      · simp only [if_neg h2]
        by_cases h4 : f0 = 4
        · subst h4
          simp only [if_true]
          by_cases hv : 0 ≤ f3 ∧ f3 ≤ 40
          · by_cases hn : f1 = 0
            · refine ⟨decide (s.size = 0), Ev.ite_pos hv (Ev.ite_pos hn (Ev.now' ?_)), by simp [OkItem, hv, hn]⟩
              rw [Bool.eq_iff_iff]
              simp [toList_nil_iff]
            · exact ⟨false, Ev.ite_pos hv (Ev.ite_neg hn (Ev.now _)), by simp [OkItem, hn]⟩
          · exact ⟨false, Ev.ite_neg hv (Ev.now _), by simp [OkItem]; omega⟩
        · simp only [if_neg h4]
          exact ⟨false, Ev.now _, by simp [OkItem, h1, h2, h3, h4]⟩
/-- What the program's value tells at a place: -1, or where it ends and how deep it is. -/
def IV (n at_ : Nat) (q : Int × Int) : Prop := q.1 = -1 ∨ ((at_ : Int) < q.1 ∧ q.1 ≤ n ∧ 0 ≤ q.2 ∧ q.2 ≤ q.1 - at_)
theorem implLoop_end (l : List S53) {many : Int} {a x : Nat} {j : Int} (hx : x ≤ 1048576) (h : ¬ j < many) : Ev (fun k => impl_value.l0 k l (a : Int) (x : Int) many j) ((a : Int), (x : Int) + 1) := by
  refine Ev.step (fun k => by rw [impl_value.l0]) ?_
  rw [w64 (x := (x : Int) + 1) (by omega) (by omega)]
  exact Ev.ite_neg h (Ev.now _)
theorem implLoop_fail (l : List S53) {many : Int} {a x : Nat} {j : Int} (h : j < many) {q : Int × Int} (hq : Ev (fun k => impl_value.f k l (a : Int)) q) (hn : q.1 = -1) : Ev (fun k => impl_value.l0 k l (a : Int) (x : Int) many j) (-1, 0) := by
  refine Ev.step (fun k => by rw [impl_value.l0]) ?_
  exact Ev.ite_pos h (Ev.bind hq (Ev.ite_pos (by omega) (Ev.now _)))
theorem implLoop_next (l : List S53) {many : Int} (hm : many ≤ 9223372036854775807) {a x : Nat} {j : Int} (h0 : 0 ≤ j) (h : j < many) {e d : Nat} (hq : Ev (fun k => impl_value.f k l (a : Int)) ((e : Int), (d : Int))) {r : Int × Int}
    (hr : Ev (fun k => impl_value.l0 k l (e : Int) ((max x d : Nat) : Int) many (j + 1)) r) : Ev (fun k => impl_value.l0 k l (a : Int) (x : Int) many j) r := by
  refine Ev.step (fun k => by rw [impl_value.l0]) ?_
  refine Ev.ite_pos h (Ev.bind hq (Ev.ite_neg (by simp only; omega) ?_))
  have e1 : mx (x : Int) (d : Int) = ((max x d : Nat) : Int) := by unfold mx; split <;> omega
  simp only [e1, w64 (show -9223372036854775808 ≤ j + 1 by omega) (show j + 1 ≤ 9223372036854775807 by omega)]
  exact hr
/-- A pair of whole numbers of which both are no less than 0. -/
theorem pair_nat {q : Int × Int} (h1 : 0 ≤ q.1) (h2 : 0 ≤ q.2) : ∃ e d : Nat, q = ((e : Int), (d : Int)) := ⟨q.1.toNat, q.2.toNat, by apply Prod.ext <;> simp only <;> omega⟩
/-- The loop over a list's values, where each value behind it answers. -/
theorem implLoop_go (l : List S53) (hl : l.length ≤ 1048576) (many : Int) (hm : many ≤ 9223372036854775807) (b : Nat) (H : ∀ a : Nat, b ≤ a → a ≤ l.length → ∃ q, Ev (fun k => impl_value.f k l (a : Int)) q ∧ IV l.length a q) :
    ∀ (e : Nat) (a x : Nat) (j : Int), l.length - a ≤ e → b ≤ a → a ≤ l.length → x ≤ a - b → 0 ≤ j → ∃ q : Int × Int, Ev (fun k => impl_value.l0 k l (a : Int) (x : Int) many j) q ∧ (q.1 = -1 ∨ ((a : Int) ≤ q.1 ∧ q.1 ≤ l.length ∧ (x : Int) + 1 ≤ q.2 ∧ q.2 ≤ q.1 - b + 1)) := by
  intro e
  induction e with
  | zero =>
    intro a x j h0 h1 h2 hx hj
    by_cases hlt : j < many
    · obtain ⟨q, hq, hi⟩ := H a h1 h2
      have hn : q.1 = -1 := by unfold IV at hi; omega
      exact ⟨(-1, 0), implLoop_fail l hlt hq hn, .inl rfl⟩
    · exact ⟨((a : Int), (x : Int) + 1), implLoop_end l (by omega) hlt, .inr (by simp only; omega)⟩
  | succ e ih =>
    intro a x j h0 h1 h2 hx hj
    by_cases hlt : j < many
    · obtain ⟨q, hq, hi⟩ := H a h1 h2
      rcases hi with hi | hi
      · exact ⟨(-1, 0), implLoop_fail l hlt hq hi, .inl rfl⟩
      · obtain ⟨f, d, rfl⟩ := pair_nat (show 0 ≤ q.1 by omega) hi.2.2.1
        simp only at hi
        obtain ⟨r, hr, hc⟩ := ih f (max x d) (j + 1) (by omega) (by omega) (by omega) (by omega) (by omega)
        exact ⟨r, implLoop_next l hm hj hlt hq hr, by omega⟩
    · exact ⟨((a : Int), (x : Int) + 1), implLoop_end l (by omega) hlt, .inr (by simp only; omega)⟩
theorem implValue_out (l : List S53) {a : Nat} (h : l.length ≤ a) : Ev (fun k => impl_value.f k l (a : Int)) (-1, 0) := by
  refine Ev.step (fun k => by rw [impl_value.f]) ?_
  refine Ev.ite_pos (by omega) ?_
  refine Ev.step (fun k => by rw [impl_value.j0]) ?_
  exact Ev.ite_pos rfl (Ev.now _)
/-- The program's value at an item: it is right, and one alone; or a list; or it is not right. -/
theorem implValue_bad (l : List S53) {a : Nat} (h : a < l.length) (hs : (rd_T53 l (a : Int)).f2.size ≤ 4611686018427387904) (hk : ¬ OkItem (rd_T53 l (a : Int)).f0 (rd_T53 l (a : Int)).f1 (rd_T53 l (a : Int)).f2 (rd_T53 l (a : Int)).f3) : Ev (fun k => impl_value.f k l (a : Int)) (-1, 0) := by
  obtain ⟨b, hb, hbi⟩ := implItemOK (rd_T53 l (a : Int)).f0 (rd_T53 l (a : Int)).f1 (rd_T53 l (a : Int)).f2 (rd_T53 l (a : Int)).f3 hs
  have hbf : b = false := by rw [← Bool.not_eq_true, hbi]; exact hk
  subst hbf
  refine Ev.step (fun k => by rw [impl_value.f]) ?_
  refine Ev.ite_neg (by omega) (Ev.ite_pos (by omega) (Ev.ite_pos (by omega) (Ev.bind hb ?_)))
  refine Ev.step (fun k => by rw [impl_value.j0]) ?_
  exact Ev.ite_pos rfl (Ev.now _)
theorem implValue_one (l : List S53) {a : Nat} (h : a < l.length) (hl : l.length ≤ 1048576) (hs : (rd_T53 l (a : Int)).f2.size ≤ 4611686018427387904) (hk : OkItem (rd_T53 l (a : Int)).f0 (rd_T53 l (a : Int)).f1 (rd_T53 l (a : Int)).f2 (rd_T53 l (a : Int)).f3) (h4 : (rd_T53 l (a : Int)).f0 ≠ 4) : Ev (fun k => impl_value.f k l (a : Int)) ((a : Int) + 1, 0) := by
  obtain ⟨b, hb, hbi⟩ := implItemOK (rd_T53 l (a : Int)).f0 (rd_T53 l (a : Int)).f1 (rd_T53 l (a : Int)).f2 (rd_T53 l (a : Int)).f3 hs
  have hbf : b = true := hbi.mpr hk
  subst hbf
  have hw : wrap64 ((a : Int) + 1) = (a : Int) + 1 := w64 (by omega) (by omega)
  refine Ev.step (fun k => by rw [impl_value.f]) ?_
  refine Ev.ite_neg (by omega) (Ev.ite_pos (by omega) (Ev.ite_pos (by omega) (Ev.bind hb ?_)))
  refine Ev.step (fun k => by rw [impl_value.j0]) ?_
  refine Ev.ite_neg (by simp) (Ev.ite_pos (by omega) (Ev.ite_pos (by omega) (Ev.ite_neg h4 ?_)))
  rw [hw]; exact Ev.now _
theorem implValue_list (l : List S53) {a : Nat} (h : a < l.length) (hl : l.length ≤ 1048576) (hs : (rd_T53 l (a : Int)).f2.size ≤ 4611686018427387904) (hk : OkItem (rd_T53 l (a : Int)).f0 (rd_T53 l (a : Int)).f1 (rd_T53 l (a : Int)).f2 (rd_T53 l (a : Int)).f3) (h4 : (rd_T53 l (a : Int)).f0 = 4) {q : Int × Int}
    (hq : Ev (fun k => impl_value.l0 k l ((a + 1 : Nat) : Int) ((0 : Nat) : Int) (rd_T53 l (a : Int)).f3 0) q) : Ev (fun k => impl_value.f k l (a : Int)) q := by
  obtain ⟨b, hb, hbi⟩ := implItemOK (rd_T53 l (a : Int)).f0 (rd_T53 l (a : Int)).f1 (rd_T53 l (a : Int)).f2 (rd_T53 l (a : Int)).f3 hs
  have hbf : b = true := hbi.mpr hk
  subst hbf
  have hw : wrap64 ((a : Int) + 1) = ((a + 1 : Nat) : Int) := by rw [w64 (by omega) (by omega)]; omega
  refine Ev.step (fun k => by rw [impl_value.f]) ?_
  refine Ev.ite_neg (by omega) (Ev.ite_pos (by omega) (Ev.ite_pos (by omega) (Ev.bind hb ?_)))
  refine Ev.step (fun k => by rw [impl_value.j0]) ?_
  refine Ev.ite_neg (by simp) (Ev.ite_pos (by omega) (Ev.ite_pos (by omega) (Ev.ite_pos h4 ?_)))
  rw [hw]; exact hq
theorem implValue_all (l : List S53) (hl : l.length ≤ 1048576) (hs : ∀ a : Nat, a < l.length → (rd_T53 l (a : Int)).f2.size ≤ 4611686018427387904) (d : Nat) : ∀ a : Nat, l.length - a ≤ d → a ≤ l.length → ∃ q, Ev (fun k => impl_value.f k l (a : Int)) q ∧ IV l.length a q := by
  induction d with
  | zero => intro a h0 h1; exact ⟨(-1, 0), implValue_out l (by omega), .inl rfl⟩
  | succ d ih =>
    intro a h0 h1
    by_cases hlt : a < l.length
    · by_cases hk : OkItem (rd_T53 l (a : Int)).f0 (rd_T53 l (a : Int)).f1 (rd_T53 l (a : Int)).f2 (rd_T53 l (a : Int)).f3
      · by_cases h4 : (rd_T53 l (a : Int)).f0 = 4
        · obtain ⟨q, hq, hc⟩ := implLoop_go l hl (rd_T53 l (a : Int)).f3 (by unfold OkItem at hk; omega) (a + 1) (fun a' h2 h3 => ih a' (by omega) h3) (l.length) (a + 1) 0 0 (by omega) (by omega) (by omega) (by omega) (by omega)
          refine ⟨q, implValue_list l hlt hl (hs a hlt) hk h4 hq, ?_⟩
          unfold IV
          omega
        · exact ⟨_, implValue_one l hlt hl (hs a hlt) hk h4, .inr (by simp only; omega)⟩
      · exact ⟨(-1, 0), implValue_bad l hlt (hs a hlt) hk, .inl rfl⟩
    · exact ⟨(-1, 0), implValue_out l (by omega), .inl rfl⟩
/-- An item of a list is right. -/
def OkAt (l : List S53) (i : Nat) : Prop := OkItem (rd_T53 l (i : Int)).f0 (rd_T53 l (i : Int)).f1 (rd_T53 l (i : Int)).f2 (rd_T53 l (i : Int)).f3
theorem implLoop_ok (l : List S53) (hl : l.length ≤ 1048576) (many : Int) (hm : many ≤ 9223372036854775807) (b : Nat) (H : ∀ a : Nat, b ≤ a → a ≤ l.length → ∃ q, Ev (fun k => impl_value.f k l (a : Int)) q ∧ IV l.length a q ∧ (q.1 = -1 ∨ ∀ i : Nat, a ≤ i → (i : Int) < q.1 → OkAt l i)) :
    ∀ (e : Nat) (a x : Nat) (j : Int), l.length - a ≤ e → b ≤ a → a ≤ l.length → x ≤ a - b → 0 ≤ j → ∃ q : Int × Int, Ev (fun k => impl_value.l0 k l (a : Int) (x : Int) many j) q ∧ (q.1 = -1 ∨ ∀ i : Nat, a ≤ i → (i : Int) < q.1 → OkAt l i) := by
  intro e
  induction e with
  | zero =>
    intro a x j h0 h1 h2 hx hj
    by_cases hlt : j < many
    · obtain ⟨q, hq, hi, _⟩ := H a h1 h2
      have hn : q.1 = -1 := by unfold IV at hi; omega
      exact ⟨(-1, 0), implLoop_fail l hlt hq hn, .inl rfl⟩
    · exact ⟨((a : Int), (x : Int) + 1), implLoop_end l (by omega) hlt, .inr (fun i h3 h4 => by simp only at h4; omega)⟩
  | succ e ih =>
    intro a x j h0 h1 h2 hx hj
    by_cases hlt : j < many
    · obtain ⟨q, hq, hi, ho⟩ := H a h1 h2
      rcases hi with hi | hi
      · exact ⟨(-1, 0), implLoop_fail l hlt hq hi, .inl rfl⟩
      · obtain ⟨f, d, rfl⟩ := pair_nat (show 0 ≤ q.1 by omega) hi.2.2.1
        simp only at hi ho
        obtain ⟨r, hr, hc⟩ := ih f (max x d) (j + 1) (by omega) (by omega) (by omega) (by omega) (by omega)
        refine ⟨r, implLoop_next l hm hj hlt hq hr, ?_⟩
        rcases hc with hc | hc
        · exact .inl hc
        · refine .inr fun i h3 h4 => ?_
          rcases Nat.lt_or_ge i f with h5 | h5
          · rcases ho with ho | ho
            · omega
            · exact ho i h3 (by omega)
          · exact hc i h5 h4
    · exact ⟨((a : Int), (x : Int) + 1), implLoop_end l (by omega) hlt, .inr (fun i h3 h4 => by simp only at h4; omega)⟩
theorem implValue_ok (l : List S53) (hl : l.length ≤ 1048576) (hs : ∀ a : Nat, a < l.length → (rd_T53 l (a : Int)).f2.size ≤ 4611686018427387904) (d : Nat) : ∀ a : Nat, l.length - a ≤ d → a ≤ l.length → ∃ q, Ev (fun k => impl_value.f k l (a : Int)) q ∧ IV l.length a q ∧ (q.1 = -1 ∨ ∀ i : Nat, a ≤ i → (i : Int) < q.1 → OkAt l i) := by
  induction d with
  | zero => intro a h0 h1; exact ⟨(-1, 0), implValue_out l (by omega), .inl rfl, .inl rfl⟩
  | succ d ih =>
    intro a h0 h1
    obtain ⟨q, hq, hi⟩ := implValue_all l hl hs l.length a (by omega) h1
    refine ⟨q, hq, hi, ?_⟩
    by_cases hlt : a < l.length
    · by_cases hk : OkAt l a
      · by_cases h4 : (rd_T53 l (a : Int)).f0 = 4
        · obtain ⟨q', hq', hc⟩ := implLoop_ok l hl (rd_T53 l (a : Int)).f3 (by unfold OkAt OkItem at hk; omega) (a + 1) (fun a' h2 h3 => ih a' (by omega) h3) (l.length) (a + 1) 0 0 (by omega) (by omega) (by omega) (by omega) (by omega)
          have e := Ev.uniq hq (implValue_list l hlt hl (hs a hlt) hk h4 hq')
          subst e
          rcases hc with hc | hc
          · exact .inl hc
          · refine .inr fun i h3 h5 => ?_
            rcases Nat.lt_or_ge a i with h6 | h6
            · exact hc i h6 h5
            · obtain rfl : i = a := by omega
              exact hk
        · have e := Ev.uniq hq (implValue_one l hlt hl (hs a hlt) hk h4)
          subst e
          refine .inr fun i h3 h5 => ?_
          simp only at h5
          obtain rfl : i = a := by omega
          exact hk
      · have e := Ev.uniq hq (implValue_bad l hlt (hs a hlt) hk)
        subst e
        exact .inl rfl
    · have e := Ev.uniq hq (implValue_out l (by omega))
      subst e
      exact .inl rfl
/-- The bytes of a head. -/
def headNums (m n : Int) : List Int :=
  if n < 24 then [(32 * m + n) % 256] else if n < 256 then [(32 * m + 24) % 256, n % 256] else if n < 65536 then [(32 * m + 25) % 256, n / 256 % 256, n % 256]
  else [(32 * m + 26) % 256, n / 16777216 % 256, n / 65536 % 256, n / 256 % 256, n % 256]
def headText (m n : Int) : ByteArray := strOfNums (headNums m n)
theorem headNums_len (m n : Int) : 1 ≤ (headNums m n).length ∧ (headNums m n).length ≤ 5 := by
  unfold headNums
  split
  · simp
  · split
    · simp
    · split <;> simp
theorem implHead (m n : Int) (h0 : 0 ≤ m) (h1 : m ≤ 7) (h2 : 0 ≤ n) (h3 : n ≤ 4294967295) : impl_head.f m n = some (headText m n) := by
  have e : wrap64 (32 * m) = 32 * m := w64 (by omega) (by omega)
  unfold impl_head.f headText headNums
  rw [e]
  by_cases a : n < 24
  · rw [if_pos a, if_pos a]; congr 2; simp
  · rw [if_neg a, if_neg a]
    by_cases b : n < 256
    · rw [if_pos b, if_pos b]; congr 2; simp
    · rw [if_neg b, if_neg b]
      by_cases c : n < 65536
      · rw [if_pos c, if_pos c]; congr 2; simp
      · rw [if_neg c, if_neg c]; congr 2; simp
theorem specNumber1 (n : Int) : Ev (fun k => spec_l2Number.f k n 1) (strOfNums [n % 256]) := by
  have w0 : wrap64 (1 - 1) = 0 := by unfold wrap64; omega
  have w1 : wrap64 (0 - 1) = -1 := by unfold wrap64; omega
  simp only [spec_l2Number.f, if_pos (show (0 : Int) ≤ 1 by decide), if_pos (show (1 : Int).toNat ≤ 281474976710656 by decide), w0]
  refine Ev.step (fun k => by rw [spec_l2Number.l0]) ?_
  refine Ev.ite_pos (by decide) (Ev.ite_pos (by decide) (Ev.ite_pos (by decide) ?_))
  rw [w1]
  refine Ev.step (fun k => by rw [spec_l2Number.l0]) ?_
  refine Ev.ite_neg (by decide) ?_
  exact Ev.now' rfl
theorem specNumber2 (n : Int) : Ev (fun k => spec_l2Number.f k n 2) (strOfNums [n / 256 % 256, n % 256]) := by
  have w0 : wrap64 (2 - 1) = 1 := by unfold wrap64; omega
  have w1 : wrap64 (1 - 1) = 0 := by unfold wrap64; omega
  have w2 : wrap64 (0 - 1) = -1 := by unfold wrap64; omega
  simp only [spec_l2Number.f, if_pos (show (0 : Int) ≤ 2 by decide), if_pos (show (2 : Int).toNat ≤ 281474976710656 by decide), w0]
  refine Ev.step (fun k => by rw [spec_l2Number.l0]) ?_
  refine Ev.ite_pos (by decide) (Ev.ite_pos (by decide) (Ev.ite_pos (by decide) ?_))
  rw [w1]
  refine Ev.step (fun k => by rw [spec_l2Number.l0]) ?_
  refine Ev.ite_pos (by decide) (Ev.ite_pos (by decide) (Ev.ite_pos (by simp [List.replicate]) ?_))
  rw [w2]
  refine Ev.step (fun k => by rw [spec_l2Number.l0]) ?_
  refine Ev.ite_neg (by decide) ?_
  exact Ev.now' rfl
theorem specNumber4 (n : Int) (h : 0 ≤ n) : Ev (fun k => spec_l2Number.f k n 4) (strOfNums [n / 16777216 % 256, n / 65536 % 256, n / 256 % 256, n % 256]) := by
  have w0 : wrap64 (4 - 1) = 3 := by unfold wrap64; omega
  have w1 : wrap64 (3 - 1) = 2 := by unfold wrap64; omega
  have w2 : wrap64 (2 - 1) = 1 := by unfold wrap64; omega
  have w3 : wrap64 (1 - 1) = 0 := by unfold wrap64; omega
  have w4 : wrap64 (0 - 1) = -1 := by unfold wrap64; omega
  have e1 : n / 256 / 256 = n / 65536 := by omega
  have e2 : n / 65536 / 256 = n / 16777216 := by omega
  simp only [spec_l2Number.f, if_pos (show (0 : Int) ≤ 4 by decide), if_pos (show (4 : Int).toNat ≤ 281474976710656 by decide), w0]
  refine Ev.step (fun k => by rw [spec_l2Number.l0]) ?_
  refine Ev.ite_pos (by decide) (Ev.ite_pos (by decide) (Ev.ite_pos (by decide) ?_))
  rw [w1]
  refine Ev.step (fun k => by rw [spec_l2Number.l0]) ?_
  refine Ev.ite_pos (by decide) (Ev.ite_pos (by decide) (Ev.ite_pos (by simp [List.replicate]) ?_))
  rw [w2]
  refine Ev.step (fun k => by rw [spec_l2Number.l0]) ?_
  refine Ev.ite_pos (by decide) (Ev.ite_pos (by decide) (Ev.ite_pos (by simp [List.replicate]) ?_))
  rw [w3]
  refine Ev.step (fun k => by rw [spec_l2Number.l0]) ?_
  refine Ev.ite_pos (by decide) (Ev.ite_pos (by decide) (Ev.ite_pos (by simp [List.replicate]) ?_))
  rw [w4]
  refine Ev.step (fun k => by rw [spec_l2Number.l0]) ?_
  refine Ev.ite_neg (by decide) ?_
  rw [e1, e2]
  exact Ev.now' rfl
theorem specHead (m n : Int) (h0 : 0 ≤ m) (h1 : m ≤ 7) (h2 : 0 ≤ n) (h3 : n ≤ 4294967295) : Ev (fun k => spec_l2Head.f k m n) (headText m n) := by
  have e : wrap64 (32 * m) = 32 * m := w64 (by omega) (by omega)
  unfold headText headNums
  simp only [spec_l2Head.f, e]
  by_cases a : n < 24
  · simp only [if_pos a, w64 (show -9223372036854775808 ≤ 32 * m + n by omega) (show 32 * m + n ≤ 9223372036854775807 by omega)]
    exact Ev.bind (specNumber1 _) (Ev.now _)
  · simp only [if_neg a]
    by_cases b : n < 256
    · simp only [if_pos b, w64 (show -9223372036854775808 ≤ 32 * m + 24 by omega) (show 32 * m + 24 ≤ 9223372036854775807 by omega)]
      refine Ev.bind (specNumber1 _) (Ev.bind (specNumber1 _) ?_)
      simp only [strOfNums_size]
      refine Ev.ite_pos (by simp) ?_
      exact Ev.now' (by rw [← strOfNums_append]; rfl)
    · simp only [if_neg b]
      by_cases c : n < 65536
      · simp only [if_pos c, w64 (show -9223372036854775808 ≤ 32 * m + 25 by omega) (show 32 * m + 25 ≤ 9223372036854775807 by omega)]
        refine Ev.bind (specNumber1 _) (Ev.bind (specNumber2 _) ?_)
        simp only [strOfNums_size]
        refine Ev.ite_pos (by simp) ?_
        exact Ev.now' (by rw [← strOfNums_append]; rfl)
      · simp only [if_neg c, w64 (show -9223372036854775808 ≤ 32 * m + 26 by omega) (show 32 * m + 26 ≤ 9223372036854775807 by omega)]
        refine Ev.bind (specNumber1 _) (Ev.bind (specNumber4 _ (by omega)) ?_)
        simp only [strOfNums_size]
        refine Ev.ite_pos (by simp) ?_
        exact Ev.now' (by rw [← strOfNums_append]; rfl)
/-- An item's bytes. -/
def itemText (f0 f1 : Int) (f2 : ByteArray) (f3 : Int) : ByteArray :=
  if f0 = 1 then headText 0 f1 else if f0 = 2 then headText 2 (f2.size : Int) ++ f2 else if f0 = 3 then headText 3 (f2.size : Int) ++ f2 else headText 4 f3
def itemsText : List S53 → ByteArray
  | [] => ⟨#[]⟩
  | x :: l => itemText x.f0 x.f1 x.f2 x.f3 ++ itemsText l
theorem headText_size (m n : Int) : 1 ≤ (headText m n).size ∧ (headText m n).size ≤ 5 := by
  have := headNums_len m n
  unfold headText
  rw [strOfNums_size]
  exact this
theorem itemText_size {f0 f1 : Int} {f2 : ByteArray} {f3 : Int} (h : OkItem f0 f1 f2 f3) : (itemText f0 f1 f2 f3).size ≤ 65 := by
  have := headText_size 0 f1
  have := headText_size 2 (f2.size : Int)
  have := headText_size 3 (f2.size : Int)
  have := headText_size 4 f3
  unfold OkItem at h
  unfold itemText
  split
  · omega
  · split
    · rw [ByteArray.size_append]; omega
    · split
      · rw [ByteArray.size_append]; omega
      · omega
theorem append_empty (s : ByteArray) : s ++ (⟨#[]⟩ : ByteArray) = s := by
  apply str_ext
  simp
theorem append_assoc' (a b c : ByteArray) : a ++ b ++ c = a ++ (b ++ c) := by
  apply str_ext
  simp
theorem rdT_eq (l : List S53) (i : Nat) (h : i < l.length) : rd_T53 l (i : Int) = l[i] := by
  simp [rd_T53, List.getD_eq_getElem?_getD, List.getElem?_eq_getElem h]
theorem bytes_go (l : List S53) (hl : l.length ≤ 1048576) (ok : ∀ i : Nat, i < l.length → OkAt l i) (d : Nat) : ∀ (i : Nat) (t : ByteArray), i ≤ l.length → l.length - i = d → t.size ≤ 65 * i →
    Ev (fun k => spec_l2Bytes.l0 k t l (l.length : Int) (i : Int)) (t ++ itemsText (l.drop i)) ∧ Ev (fun k => impl_itemsBytes.l0 k t l (l.length : Int) (i : Int)) (t ++ itemsText (l.drop i)) := by
  induction d with
  | zero =>
    intro i t h0 hd ht
    rw [List.drop_eq_nil_of_le (by omega)]
    simp only [itemsText, append_empty]
    constructor
    · refine Ev.step (fun k => by rw [spec_l2Bytes.l0]) ?_
      exact Ev.ite_neg (by omega) (Ev.now _)
    · refine Ev.step (fun k => by rw [impl_itemsBytes.l0]) ?_
      exact Ev.ite_neg (by omega) (Ev.now _)
  | succ d ih =>
    intro i t h0 hd ht
    have hi : i < l.length := by omega
    have hok := ok i hi
    have hsz := itemText_size hok
    have hw : wrap64 ((i : Int) + 1) = ((i + 1 : Nat) : Int) := by rw [w64 (by omega) (by omega)]; omega
    have hp : (i : Int) < (l.length : Int) := by omega
    have hz : (0 : Int) ≤ (i : Int) := by omega
    have hx := rdT_eq l i hi
    obtain ⟨a, b⟩ := ih (i + 1) (t ++ itemText l[i].f0 l[i].f1 l[i].f2 l[i].f3) (by omega) (by omega) (by rw [ByteArray.size_append]; rw [hx] at hsz; omega)
    rw [List.drop_eq_getElem_cons hi]
    simp only [itemsText, ← append_assoc']
    unfold OkAt at hok
    have s2 := headText_size 2 (l[i].f2.size : Int)
    have s3 := headText_size 3 (l[i].f2.size : Int)
    have s1 := headText_size 0 l[i].f1
    have s4 := headText_size 4 l[i].f3
    constructor
    · refine Ev.step (fun k => by rw [spec_l2Bytes.l0]) ?_
      refine Ev.ite_pos hp (Ev.ite_pos hz (Ev.ite_pos hp ?_))
      rw [hx] at hok ⊢
      revert hok a
      generalize l[i] = x at s1 s2 s3 s4
      intro hok a
      rw [hw]
      unfold OkItem at hok
      unfold itemText at a ⊢
      by_cases h1 : x.f0 = 1
      · rw [if_pos h1] at a ⊢
        exact Ev.ite_pos h1 (Ev.bind (specHead 0 x.f1 (by omega) (by omega) (by omega) (by omega)) (Ev.ite_pos (by omega) a))
      · rw [if_neg h1] at a ⊢
        refine Ev.ite_neg h1 ?_
        by_cases h2 : x.f0 = 2
        · rw [if_pos h2] at a ⊢
          exact Ev.ite_pos h2 (Ev.bind (specHead 2 (x.f2.size : Int) (by omega) (by omega) (by omega) (by omega)) (Ev.ite_pos (by omega) (Ev.ite_pos (by omega) a)))
        · rw [if_neg h2] at a ⊢
          refine Ev.ite_neg h2 ?_
          by_cases h3 : x.f0 = 3
          · rw [if_pos h3] at a ⊢
            exact Ev.ite_pos h3 (Ev.bind (specHead 3 (x.f2.size : Int) (by omega) (by omega) (by omega) (by omega)) (Ev.ite_pos (by omega) (Ev.ite_pos (by omega) a)))
          · rw [if_neg h3] at a ⊢
            exact Ev.ite_neg h3 (Ev.bind (specHead 4 x.f3 (by omega) (by omega) (by omega) (by omega)) (Ev.ite_pos (by omega) a))
    · refine Ev.step (fun k => by rw [impl_itemsBytes.l0]) ?_
      refine Ev.ite_pos hp (Ev.ite_pos hz (Ev.ite_pos hp ?_))
      rw [hx] at hok ⊢
      revert hok b
      generalize l[i] = x at s1 s2 s3 s4
      intro hok b
      rw [hw]
      unfold OkItem at hok
      unfold itemText at b ⊢
      by_cases h1 : x.f0 = 1
      · rw [if_pos h1] at b ⊢
        exact Ev.ite_pos h1 (Ev.opt_bind (implHead 0 x.f1 (by omega) (by omega) (by omega) (by omega)) (Ev.ite_pos (by omega) b))
      · rw [if_neg h1] at b ⊢
        refine Ev.ite_neg h1 ?_
        by_cases h2 : x.f0 = 2
        · rw [if_pos h2] at b ⊢
          exact Ev.ite_pos h2 (Ev.opt_bind (implHead 2 (x.f2.size : Int) (by omega) (by omega) (by omega) (by omega)) (Ev.ite_pos (by omega) (Ev.ite_pos (by omega) b)))
        · rw [if_neg h2] at b ⊢
          refine Ev.ite_neg h2 ?_
          by_cases h3 : x.f0 = 3
          · rw [if_pos h3] at b ⊢
            exact Ev.ite_pos h3 (Ev.opt_bind (implHead 3 (x.f2.size : Int) (by omega) (by omega) (by omega) (by omega)) (Ev.ite_pos (by omega) (Ev.ite_pos (by omega) b)))
          · rw [if_neg h3] at b ⊢
            exact Ev.ite_neg h3 (Ev.ite_pos (by omega) (Ev.opt_bind (implHead 4 x.f3 (by omega) (by omega) (by omega) (by omega)) (Ev.ite_pos (by omega) b)))
theorem empty_append (s : ByteArray) : (⟨#[]⟩ : ByteArray) ++ s = s := by
  apply str_ext
  simp
theorem bytes_both (l : List S53) (hl : l.length ≤ 1048576) (ok : ∀ i : Nat, i < l.length → OkAt l i) : Ev (fun k => spec_l2Bytes.f k l) (itemsText l) ∧ Ev (fun k => impl_itemsBytes.f k l) (itemsText l) := by
  have := bytes_go l hl ok l.length 0 (⟨#[]⟩ : ByteArray) (by omega) (by omega) (by decide)
  simp only [List.drop_zero, empty_append] at this
  simp only [spec_l2Bytes.f, impl_itemsBytes.f]
  exact this
theorem specIn (a b c : Int) : spec_l1In.f a b c = some (decide (b ≤ a ∧ a ≤ c)) := by
  unfold spec_l1In.f
  by_cases h : b ≤ a <;> simp [h]
theorem specValue (a : Int) : spec_l1Value.f a = some (decide (0 ≤ a ∧ a ≤ 1000000000)) := by
  simp [spec_l1Value.f, specIn]
theorem specText_go (a : Nat) (ha : a ≤ 1048576) (deep : Int) (f0 f1 : Int) (s : ByteArray) (f3 : Int) (hs : s.size ≤ 4611686018427387904) (d : Nat) : ∀ i : Nat, i ≤ s.size → s.size - i = d →
    ∃ r : Int × Int × Bool, Ev (fun k => spec_l2Value.l0 k (a : Int) deep (i : Int) f0 f1 s f3) r ∧ (r.2.2 = true ↔ ((f0 = 3 → SignsFrom s i) ∧ s.size ≤ 60 ∧ f1 = 0 ∧ f3 = 0)) ∧ (r.2.2 = true → r.1 = (a : Int) + 1 ∧ r.2.1 = deep) := by
  induction d with
  | zero =>
    intro i h0 hd
    have hs0 : SignsFrom s i := fun j h1 h2 => by omega
    have hw : wrap64 ((a : Int) + 1) = (a : Int) + 1 := w64 (by omega) (by omega)
    by_cases h60 : s.size ≤ 60
    · by_cases h1 : f1 = 0
      · refine ⟨((a : Int) + 1, deep, f3 == 0), ?_, by simp [hs0, h60, h1], fun _ => ⟨rfl, rfl⟩⟩
        refine Ev.step (fun k => by rw [spec_l2Value.l0]) ?_
        rw [hw]
        exact Ev.ite_neg (by omega) (Ev.ite_pos (by omega) (Ev.ite_pos h1 (Ev.now _)))
      · refine ⟨((a : Int) + 1, deep, false), ?_, by simp [h1], fun h => by cases h⟩
        refine Ev.step (fun k => by rw [spec_l2Value.l0]) ?_
        rw [hw]
        exact Ev.ite_neg (by omega) (Ev.ite_pos (by omega) (Ev.ite_neg h1 (Ev.now _)))
    · refine ⟨((a : Int) + 1, deep, false), ?_, by simp [h60], fun h => by cases h⟩
      refine Ev.step (fun k => by rw [spec_l2Value.l0]) ?_
      rw [hw]
      exact Ev.ite_neg (by omega) (Ev.ite_neg (by omega) (Ev.now _))
  | succ d ih =>
    intro i h0 hd
    have hi : i < s.size := by omega
    have hw : wrap64 ((i : Int) + 1) = ((i + 1 : Nat) : Int) := by rw [w64 (by omega) (by omega)]; omega
    have hp : (i : Int) < (s.size : Int) := by omega
    have hz : (0 : Int) ≤ (i : Int) := by omega
    obtain ⟨r, x, y, z⟩ := ih (i + 1) (by omega) (by omega)
    by_cases h3 : f0 = 3
    · by_cases hr : 32 ≤ bt s (i : Int) ∧ bt s (i : Int) ≤ 126
      · refine ⟨r, ?_, by rw [y, SignsFrom.step hi]; simp [hr], z⟩
        refine Ev.step (fun k => by rw [spec_l2Value.l0]) ?_
        refine Ev.ite_pos hp (Ev.ite_pos h3 (Ev.ite_pos hz (Ev.ite_neg (by omega) (Ev.ite_neg (by omega) ?_))))
        rw [hw]; exact x
      · refine ⟨(0, 0, false), ?_, by rw [SignsFrom.step hi]; simp [hr, h3], fun h => by cases h⟩
        refine Ev.step (fun k => by rw [spec_l2Value.l0]) ?_
        refine Ev.ite_pos hp (Ev.ite_pos h3 (Ev.ite_pos hz ?_))
        by_cases hlo : bt s (i : Int) < 32
        · exact Ev.ite_pos hlo (Ev.now _)
        · exact Ev.ite_neg hlo (Ev.ite_pos (by omega) (Ev.now _))
    · refine ⟨r, ?_, by rw [y]; simp [h3], z⟩
      refine Ev.step (fun k => by rw [spec_l2Value.l0]) ?_
      refine Ev.ite_pos hp (Ev.ite_neg h3 ?_)
      rw [hw]; exact x
theorem specValue_out (l : List S53) {a : Nat} {deep : Int} (h : l.length ≤ a) : Ev (fun k => spec_l2Value.f k l (a : Int) deep) (0, 0, false) := by
  refine Ev.step (fun k => by rw [spec_l2Value.f]) ?_
  exact Ev.ite_pos (by omega) (Ev.now _)
/-- An item that is no list. -/
theorem specValue_one (l : List S53) {a : Nat} {deep : Int} (h : a < l.length) (hl : l.length ≤ 1048576) (hs : (rd_T53 l (a : Int)).f2.size ≤ 4611686018427387904) (h4 : (rd_T53 l (a : Int)).f0 ≠ 4) :
    ∃ r : Int × Int × Bool, Ev (fun k => spec_l2Value.f k l (a : Int) deep) r ∧ (r.2.2 = true ↔ OkItem (rd_T53 l (a : Int)).f0 (rd_T53 l (a : Int)).f1 (rd_T53 l (a : Int)).f2 (rd_T53 l (a : Int)).f3) ∧ (r.2.2 = true → r.1 = (a : Int) + 1 ∧ r.2.1 = deep) := by
  have hw : wrap64 ((a : Int) + 1) = (a : Int) + 1 := w64 (by omega) (by omega)
  have open_ : ∀ {r}, _ → Ev (fun k => spec_l2Value.f k l (a : Int) deep) r := fun {r} hr => Ev.step (r := r) (fun k => by rw [spec_l2Value.f]) (Ev.ite_neg (by omega) (Ev.ite_pos (by omega) (Ev.ite_pos (by omega) hr)))
  revert open_
  generalize rd_T53 l (a : Int) = x at hs h4 ⊢
  intro open_
  by_cases h1 : x.f0 = 1
  · by_cases hv : 0 ≤ x.f1 ∧ x.f1 ≤ 1000000000
    · by_cases ht : x.f2.size = 0
      · refine ⟨((a : Int) + 1, deep, x.f3 == 0), open_ (Ev.ite_pos h1 ?_), by simp [OkItem, h1, hv, ht], fun _ => ⟨rfl, rfl⟩⟩
        rw [hw, specValue]
        exact Ev.ite_pos (by simpa using hv) (Ev.ite_pos ((toList_nil_iff _).mpr ht) (Ev.now _))
      · refine ⟨((a : Int) + 1, deep, false), open_ (Ev.ite_pos h1 ?_), by simp [OkItem, h1, ht], fun h => by cases h⟩
        rw [hw, specValue]
        exact Ev.ite_pos (by simpa using hv) (Ev.ite_neg (fun h => ht ((toList_nil_iff _).mp h)) (Ev.now _))
    · refine ⟨((a : Int) + 1, deep, false), open_ (Ev.ite_pos h1 ?_), by simp [OkItem, h1]; omega, fun h => by cases h⟩
      rw [hw, specValue]
      exact Ev.ite_neg (by simpa using hv) (Ev.now _)
  · obtain ⟨r, p, q, z⟩ := specText_go a (by omega) deep x.f0 x.f1 x.f2 x.f3 hs x.f2.size 0 (by omega) (by omega)
    by_cases h2 : x.f0 = 2
    · refine ⟨r, open_ (Ev.ite_neg h1 (Ev.ite_pos h2 ?_)), by rw [q]; simp [OkItem, h2], z⟩
      rw [show (x.f0 == 2) = true by simp [h2]]
      refine Ev.step (fun k => by rw [spec_l2Value.j0]) ?_
      exact Ev.ite_pos rfl p
    · by_cases h3 : x.f0 = 3
      · refine ⟨r, open_ (Ev.ite_neg h1 (Ev.ite_neg h2 ?_)), by rw [q]; simp [OkItem, h3], z⟩
        rw [show (x.f0 == 3) = true by simp [h3]]
        refine Ev.step (fun k => by rw [spec_l2Value.j0]) ?_
        exact Ev.ite_pos rfl p
      · refine ⟨(0, 0, false), open_ (Ev.ite_neg h1 (Ev.ite_neg h2 ?_)), by simp [OkItem, h1, h2, h3, h4], fun h => by cases h⟩
        rw [show (x.f0 == 3) = false by simp [h3]]
        refine Ev.step (fun k => by rw [spec_l2Value.j0]) ?_
        exact Ev.ite_neg (by simp) (Ev.ite_neg h4 (Ev.now _))
/-- A list that can't be told. -/
theorem specValue_noList (l : List S53) {a : Nat} {deep : Int} (h : a < l.length) (hl : l.length ≤ 1048576) (h4 : (rd_T53 l (a : Int)).f0 = 4) (hn : ¬ ((rd_T53 l (a : Int)).f1 = 0 ∧ (rd_T53 l (a : Int)).f2.size = 0 ∧ 0 ≤ (rd_T53 l (a : Int)).f3 ∧ deep ≠ 5)) :
    Ev (fun k => spec_l2Value.f k l (a : Int) deep) (0, 0, false) := by
  have open_ : ∀ {r}, _ → Ev (fun k => spec_l2Value.f k l (a : Int) deep) r := fun {r} hr => Ev.step (r := r) (fun k => by rw [spec_l2Value.f]) (Ev.ite_neg (by omega) (Ev.ite_pos (by omega) (Ev.ite_pos (by omega) hr)))
  revert open_
  generalize rd_T53 l (a : Int) = x at h4 hn ⊢
  intro open_
  refine open_ (Ev.ite_neg (by omega) (Ev.ite_neg (by omega) ?_))
  rw [show (x.f0 == 3) = false by simp [h4]]
  refine Ev.step (fun k => by rw [spec_l2Value.j0]) ?_
  refine Ev.ite_neg (by simp) (Ev.ite_pos h4 ?_)
  have stop : Ev (fun k => spec_l2Value.j2 k l (a : Int) deep true x.f0 x.f1 x.f2 x.f3) (0, 0, false) := by
    refine Ev.step (fun k => by rw [spec_l2Value.j2]) ?_
    exact Ev.ite_pos rfl (Ev.now _)
  refine Ev.ite (fun h1 => Ev.ite (fun h2 => Ev.ite (fun h3 => stop) fun h3 => ?_) fun h2 => stop) fun h1 => stop
  rw [toList_nil_iff] at h2
  have : deep = 5 := by omega
  rw [show (deep == 5) = true by simp [this]]
  exact stop
theorem specValue_list (l : List S53) {a : Nat} {deep : Nat} (h : a < l.length) (hl : l.length ≤ 1048576) (h4 : (rd_T53 l (a : Int)).f0 = 4) (hn : (rd_T53 l (a : Int)).f1 = 0 ∧ (rd_T53 l (a : Int)).f2.size = 0 ∧ 0 ≤ (rd_T53 l (a : Int)).f3 ∧ deep < 5) {r : Int × Int × Bool}
    (hr : Ev (fun k => spec_l2Value.l1 k l (deep : Int) ((deep + 1 : Nat) : Int) ((a + 1 : Nat) : Int) 0 (rd_T53 l (a : Int)).f0 (rd_T53 l (a : Int)).f1 (rd_T53 l (a : Int)).f2 (rd_T53 l (a : Int)).f3) r) :
    Ev (fun k => spec_l2Value.f k l (a : Int) (deep : Int)) r := by
  have hw : wrap64 ((a : Int) + 1) = ((a + 1 : Nat) : Int) := by rw [w64 (by omega) (by omega)]; omega
  have hw2 : wrap64 ((deep : Int) + 1) = ((deep + 1 : Nat) : Int) := by rw [w64 (by omega) (by omega)]; omega
  have open_ : ∀ {r}, _ → Ev (fun k => spec_l2Value.f k l (a : Int) (deep : Int)) r := fun {r} hr => Ev.step (r := r) (fun k => by rw [spec_l2Value.f]) (Ev.ite_neg (by omega) (Ev.ite_pos (by omega) (Ev.ite_pos (by omega) hr)))
  revert open_
  generalize rd_T53 l (a : Int) = x at h4 hn hr ⊢
  intro open_
  refine open_ (Ev.ite_neg (by omega) (Ev.ite_neg (by omega) ?_))
  rw [show (x.f0 == 3) = false by simp [h4]]
  refine Ev.step (fun k => by rw [spec_l2Value.j0]) ?_
  refine Ev.ite_neg (by simp) (Ev.ite_pos h4 (Ev.ite_pos hn.1 (Ev.ite_pos ((toList_nil_iff _).mpr hn.2.1) (Ev.ite_neg (by omega) ?_))))
  rw [show ((deep : Int) == 5) = false by simp; omega]
  refine Ev.step (fun k => by rw [spec_l2Value.j2]) ?_
  refine Ev.ite_neg (by simp) ?_
  rw [hw, hw2]
  exact hr
/-- What the two tell of one place, deep lists in. -/
def Rel (deep : Nat) (r : Int × Int × Bool) (q : Int × Int) : Prop :=
  (r.2.2 = true → q.1 = r.1 ∧ r.2.1 = deep + q.2 ∧ deep + q.2 ≤ 5) ∧ (r.2.2 = false → q.1 = -1 ∨ 5 < deep + q.2)
theorem specLoop_go (l : List S53) (hl : l.length ≤ 1048576) (f0 f1 : Int) (f2 : ByteArray) (many : Int) (hm : many ≤ 9223372036854775807) (deep : Nat) (hd : deep < 5) (b : Nat)
    (Hi : ∀ a : Nat, b ≤ a → a ≤ l.length → ∃ q, Ev (fun k => impl_value.f k l (a : Int)) q ∧ IV l.length a q)
    (H : ∀ a : Nat, b ≤ a → a ≤ l.length → ∃ r, Ev (fun k => spec_l2Value.f k l (a : Int) ((deep + 1 : Nat) : Int)) r ∧ (r.2.2 = true → (a : Int) < r.1 ∧ r.1 ≤ l.length ∧ ((deep + 1 : Nat) : Int) ≤ r.2.1 ∧ r.2.1 ≤ 5) ∧ (l.length ≤ 40 → ∃ q, Ev (fun k => impl_value.f k l (a : Int)) q ∧ IV l.length a q ∧ Rel (deep + 1) r q)) :
    ∀ (e : Nat) (a x : Nat) (j : Int), l.length - a ≤ e → b ≤ a → a ≤ l.length → (l.length ≤ 40 → x ≤ a - b) → deep + 1 + x ≤ 5 → 0 ≤ j → 
      ∃ r, Ev (fun k => spec_l2Value.l1 k l (deep : Int) ((deep + 1 + x : Nat) : Int) (a : Int) j f0 f1 f2 many) r ∧ (r.2.2 = true → (a : Int) ≤ r.1 ∧ r.1 ≤ l.length ∧ (deep : Int) + 1 ≤ r.2.1 ∧ r.2.1 ≤ 5 ∧ (j ≤ many → (a : Int) + (many - j) ≤ r.1)) ∧
        (l.length ≤ 40 → ∃ q, Ev (fun k => impl_value.l0 k l (a : Int) (x : Int) many j) q ∧ Rel deep r q) := by
  have stop : ∀ {a x : Nat} {j : Int} {r}, j < many → Ev (fun k => spec_l2Value.f k l (a : Int) ((deep + 1 : Nat) : Int)) r → r.2.2 = false → Ev (fun k => spec_l2Value.l1 k l (deep : Int) ((deep + 1 + x : Nat) : Int) (a : Int) j f0 f1 f2 many) (0, 0, false) := by
    intro a x j r h hr hf
    refine Ev.step (fun k => by rw [spec_l2Value.l1]) ?_
    have hw2 : wrap64 ((deep : Int) + 1) = ((deep + 1 : Nat) : Int) := by rw [w64 (by omega) (by omega)]; omega
    rw [hw2]
    exact Ev.ite_pos h (Ev.bind hr (Ev.ite_neg (by simp [hf]) (Ev.now _)))
  have fin : ∀ {a x : Nat} {j : Int}, ¬ j < many → Ev (fun k => spec_l2Value.l1 k l (deep : Int) ((deep + 1 + x : Nat) : Int) (a : Int) j f0 f1 f2 many) ((a : Int), ((deep + 1 + x : Nat) : Int), true) := by
    intro a x j h
    refine Ev.step (fun k => by rw [spec_l2Value.l1]) ?_
    exact Ev.ite_neg h (Ev.now _)
  have next : ∀ {a x : Nat} {j : Int} {e d : Nat} {r}, 0 ≤ j → j < many → Ev (fun k => spec_l2Value.f k l (a : Int) ((deep + 1 : Nat) : Int)) ((e : Int), ((deep + 1 + d : Nat) : Int), true) → Ev (fun k => spec_l2Value.l1 k l (deep : Int) ((deep + 1 + max x d : Nat) : Int) (e : Int) (j + 1) f0 f1 f2 many) r →
      Ev (fun k => spec_l2Value.l1 k l (deep : Int) ((deep + 1 + x : Nat) : Int) (a : Int) j f0 f1 f2 many) r := by
    intro a x j e d r h0 h hr hn
    refine Ev.step (fun k => by rw [spec_l2Value.l1]) ?_
    have hw2 : wrap64 ((deep : Int) + 1) = ((deep + 1 : Nat) : Int) := by rw [w64 (by omega) (by omega)]; omega
    have hw3 : wrap64 (j + 1) = j + 1 := w64 (by omega) (by omega)
    rw [hw2, hw3]
    refine Ev.ite_pos h (Ev.bind hr (Ev.ite_pos rfl ?_))
    by_cases hxd : x < d
    · refine Ev.ite_pos (by simp only; omega) ?_
      rw [show max x d = d by omega] at hn
      exact hn
    · refine Ev.ite_neg (by simp only; omega) ?_
      rw [show max x d = x by omega] at hn
      exact hn
  intro e
  induction e with
  | zero =>
    intro a x j h0 h1 h2 hx h5 hj
    by_cases hlt : j < many
    · obtain ⟨r, hr, hc, hq⟩ := H a h1 h2
      have hf : r.2.2 = false := by
        rw [← Bool.not_eq_true]; intro ht; have := hc ht; omega
      refine ⟨(0, 0, false), stop hlt hr hf, fun h => (by cases h), fun h40 => ?_⟩
      obtain ⟨q, hq1, hq2, _⟩ := hq h40
      exact ⟨(-1, 0), implLoop_fail l hlt hq1 (by unfold IV at hq2; omega), ⟨fun h => (by cases h), fun _ => .inl rfl⟩⟩
    · exact ⟨_, fin hlt, fun _ => (by simp only; omega), fun _ => ⟨_, implLoop_end l (by omega) hlt, ⟨fun _ => ⟨rfl, (by simp only; omega), (by simp only; omega)⟩, fun h => (by cases h)⟩⟩⟩
  | succ e ih =>
    intro a x j h0 h1 h2 hx h5 hj
    by_cases hlt : j < many
    · obtain ⟨r, hr, hc, hq⟩ := H a h1 h2
      cases hrb : r.2.2 with
      | false =>
        refine ⟨(0, 0, false), stop hlt hr hrb, fun h => (by cases h), fun h40 => ?_⟩
        obtain ⟨q, hq1, hq2, hq3⟩ := hq h40
        rcases hq2 with hq2 | hq2
        · exact ⟨(-1, 0), implLoop_fail l hlt hq1 hq2, ⟨fun h => (by cases h), fun _ => .inl rfl⟩⟩
        · have h6 := hq3.2 hrb
          obtain ⟨f, g, rfl⟩ := pair_nat (show 0 ≤ q.1 by omega) hq2.2.2.1
          simp only at hq2 h6
          obtain ⟨u, hu1, hu2⟩ := implLoop_go l hl many hm b Hi l.length f (max x g) (j + 1) (by omega) (by omega) (by omega) (by have := hx h40; omega) (by omega)
          exact ⟨u, implLoop_next l hm hj hlt hq1 hu1, ⟨fun h => (by cases h), fun _ => (by omega)⟩⟩
      | true =>
        have hc := hc hrb
        obtain ⟨r1, r2, r3⟩ := r
        simp only at hrb hc
        subst hrb
        obtain ⟨f, rfl⟩ := Int.eq_ofNat_of_zero_le (show 0 ≤ r1 by omega)
        obtain ⟨g, hg⟩ := Int.eq_ofNat_of_zero_le (show 0 ≤ r2 - ((deep + 1 : Nat) : Int) by omega)
        obtain rfl : r2 = ((deep + 1 + g : Nat) : Int) := by omega
        have hgx : l.length ≤ 40 → g ≤ f - a := by
          intro h40
          obtain ⟨q, hq1, hq2, hq3⟩ := hq h40
          have h7 := hq3.1 rfl
          simp only at h7
          unfold IV at hq2
          omega
        · obtain ⟨u, hu1, hu2, hu3⟩ := ih f (max x g) (j + 1) (by omega) (by omega) (by omega) (fun h40 => by have := hx h40; have := hgx h40; omega) (by omega) (by omega)
          refine ⟨u, next hj hlt hr hu1, fun h => (by have := hu2 h; omega), fun h40 => ?_⟩
          obtain ⟨q, hq1, hq2, hq3⟩ := hq h40
          have h7 := hq3.1 rfl
          simp only at h7
          obtain ⟨v, hv1, hv2⟩ := hu3 h40
          obtain ⟨q1, q2⟩ := q
          simp only at h7
          obtain rfl : q1 = (f : Int) := h7.1
          obtain rfl : q2 = (g : Int) := by omega
          exact ⟨v, implLoop_next l hm hj hlt hq1 hv1, hv2⟩
    · exact ⟨_, fin hlt, fun _ => (by simp only; omega), fun _ => ⟨_, implLoop_end l (by omega) hlt, ⟨fun _ => ⟨rfl, (by simp only; omega), (by simp only; omega)⟩, fun h => (by cases h)⟩⟩⟩
/-- The two at one place, deep lists in. -/
theorem specValue_all (l : List S53) (hl : l.length ≤ 1048576) (hs : ∀ a : Nat, a < l.length → (rd_T53 l (a : Int)).f2.size ≤ 4611686018427387904) (hm : ∀ a : Nat, a < l.length → (rd_T53 l (a : Int)).f3 ≤ 9223372036854775807) (d : Nat) : ∀ (a deep : Nat), l.length - a ≤ d → a ≤ l.length → deep ≤ 5 →
    ∃ r, Ev (fun k => spec_l2Value.f k l (a : Int) (deep : Int)) r ∧ (r.2.2 = true → (a : Int) < r.1 ∧ r.1 ≤ l.length ∧ (deep : Int) ≤ r.2.1 ∧ r.2.1 ≤ 5) ∧ (l.length ≤ 40 → ∃ q, Ev (fun k => impl_value.f k l (a : Int)) q ∧ IV l.length a q ∧ Rel deep r q) := by
  induction d with
  | zero =>
    intro a deep h0 h1 h2
    exact ⟨(0, 0, false), specValue_out l (by omega), fun h => (by cases h), fun _ => ⟨(-1, 0), implValue_out l (by omega), .inl rfl, ⟨fun h => (by cases h), fun _ => .inl rfl⟩⟩⟩
  | succ d ih =>
    intro a deep h0 h1 h2
    by_cases hlt : a < l.length
    · have hbad : ¬ OkItem (rd_T53 l (a : Int)).f0 (rd_T53 l (a : Int)).f1 (rd_T53 l (a : Int)).f2 (rd_T53 l (a : Int)).f3 → ∃ q, Ev (fun k => impl_value.f k l (a : Int)) q ∧ IV l.length a q ∧ q.1 = -1 := fun hk =>
        ⟨(-1, 0), implValue_bad l hlt (hs a hlt) hk, .inl rfl, rfl⟩
      by_cases h4 : (rd_T53 l (a : Int)).f0 = 4
      · obtain ⟨q, hq1, hq2⟩ := implValue_all l hl hs l.length a (by omega) h1
        by_cases hn : (rd_T53 l (a : Int)).f1 = 0 ∧ (rd_T53 l (a : Int)).f2.size = 0 ∧ 0 ≤ (rd_T53 l (a : Int)).f3
        · by_cases h5 : deep < 5
          · obtain ⟨r, hr1, hr2, hr3⟩ := specLoop_go l hl (rd_T53 l (a : Int)).f0 (rd_T53 l (a : Int)).f1 (rd_T53 l (a : Int)).f2 (rd_T53 l (a : Int)).f3 (hm a hlt) deep h5 (a + 1)
              (fun a' _ h3 => implValue_all l hl hs l.length a' (by omega) h3) (fun a' h2' h3 => ih a' (deep + 1) (by omega) h3 (by omega)) l.length (a + 1) 0 0 (by omega) (by omega) (by omega) (fun _ => by omega) (by omega) (by omega)
            refine ⟨r, specValue_list l hlt hl h4 ⟨hn.1, hn.2.1, hn.2.2, h5⟩ hr1, fun h => (by have := hr2 h; omega), fun h40 => ?_⟩
            by_cases hk : OkItem (rd_T53 l (a : Int)).f0 (rd_T53 l (a : Int)).f1 (rd_T53 l (a : Int)).f2 (rd_T53 l (a : Int)).f3
            · obtain ⟨q', hq3, hq4⟩ := hr3 h40
              have e := Ev.uniq hq1 (implValue_list l hlt hl (hs a hlt) hk h4 hq3)
              subst e
              exact ⟨q, hq1, hq2, hq4⟩
            · obtain ⟨q', hq3, hq4, hq5⟩ := hbad hk
              refine ⟨q', hq3, hq4, ⟨fun h => ?_, fun _ => .inl hq5⟩⟩
              have h6 := hr2 h
              unfold OkItem at hk
              omega
          · refine ⟨(0, 0, false), specValue_noList l hlt hl h4 (by omega), fun h => (by cases h), fun h40 => ⟨q, hq1, hq2, ⟨fun h => (by cases h), fun _ => ?_⟩⟩⟩
            by_cases hk : OkItem (rd_T53 l (a : Int)).f0 (rd_T53 l (a : Int)).f1 (rd_T53 l (a : Int)).f2 (rd_T53 l (a : Int)).f3
            · obtain ⟨q', hq3, hq4⟩ := implLoop_go l hl (rd_T53 l (a : Int)).f3 (hm a hlt) (a + 1) (fun a' _ h3 => implValue_all l hl hs l.length a' (by omega) h3) l.length (a + 1) 0 0 (by omega) (by omega) (by omega) (by omega) (by omega)
              have e := Ev.uniq hq1 (implValue_list l hlt hl (hs a hlt) hk h4 hq3)
              subst e
              omega
            · obtain ⟨q', hq3, hq4, hq5⟩ := hbad hk
              have e := Ev.uniq hq1 hq3
              subst e
              exact .inl hq5
        · have hk : ¬ OkItem (rd_T53 l (a : Int)).f0 (rd_T53 l (a : Int)).f1 (rd_T53 l (a : Int)).f2 (rd_T53 l (a : Int)).f3 := by unfold OkItem; omega
          obtain ⟨q', hq3, hq4, hq5⟩ := hbad hk
          exact ⟨(0, 0, false), specValue_noList l hlt hl h4 (by omega), fun h => (by cases h), fun h40 => ⟨q', hq3, hq4, ⟨fun h => (by cases h), fun _ => .inl hq5⟩⟩⟩
      · obtain ⟨r, hr1, hr2, hr3⟩ := specValue_one l (deep := (deep : Int)) hlt hl (hs a hlt) h4
        refine ⟨r, hr1, fun h => (by have := hr3 h; omega), fun h40 => ?_⟩
        by_cases hk : OkItem (rd_T53 l (a : Int)).f0 (rd_T53 l (a : Int)).f1 (rd_T53 l (a : Int)).f2 (rd_T53 l (a : Int)).f3
        · have h7 := hr3 (hr2.mpr hk)
          exact ⟨_, implValue_one l hlt hl (hs a hlt) hk h4, .inr (by simp only; omega), ⟨fun _ => ⟨h7.1.symm, (by simp only; omega), (by simp only; omega)⟩, fun h => (by rw [hr2.mpr hk] at h; cases h)⟩⟩
        · obtain ⟨q', hq3, hq4, hq5⟩ := hbad hk
          exact ⟨q', hq3, hq4, ⟨fun h => absurd (hr2.mp h) hk, fun _ => .inl hq5⟩⟩
    · exact ⟨(0, 0, false), specValue_out l (by omega), fun h => (by cases h), fun _ => ⟨(-1, 0), implValue_out l (by omega), .inl rfl, ⟨fun h => (by cases h), fun _ => .inl rfl⟩⟩⟩
/-- The two on whether items are a value, and how deep it is: the same. -/
theorem goodItems_both (l : List S53) (hl : l.length ≤ 1048576) (hs : ∀ a : Nat, a < l.length → (rd_T53 l (a : Int)).f2.size ≤ 4611686018427387904) (hm : ∀ a : Nat, a < l.length → (rd_T53 l (a : Int)).f3 ≤ 9223372036854775807) :
    ∃ b : Bool, Ev (fun k => spec_GoodItems.f k l) b ∧ Ev (fun k => impl_GoodItems.f k l) b ∧
      (b = true → (∀ i : Nat, i < l.length → OkAt l i) ∧ (itemsText l).size ≤ 400 ∧ 1 ≤ l.length ∧ l.length ≤ 40 ∧ ∃ dp : Nat, Ev (fun k => spec_l2Value.f k l 0 0) ((l.length : Int), (dp : Int), true) ∧ Ev (fun k => impl_value.f k l 0) ((l.length : Int), (dp : Int)) ∧ dp ≤ 5) := by
  obtain ⟨r, hr, hc, hq⟩ := specValue_all l hl hs hm l.length 0 0 (by omega) (by omega) (by omega)
  have hr0 : Ev (fun k => spec_l2Value.f k l 0 0) r := hr
  by_cases h40 : 1 ≤ l.length ∧ l.length ≤ 40
  · obtain ⟨q, hq1, hq2, hq3⟩ := hq h40.2
    obtain ⟨q', hq4, hq5, hq6⟩ := implValue_ok l hl hs l.length 0 (by omega) (by omega)
    have e := Ev.uniq hq1 hq4
    subst e
    have hq0 : Ev (fun k => impl_value.f k l 0) q := hq1
    by_cases hg : r.2.2 = true ∧ r.1 = (l.length : Int)
    · have h7 := hq3.1 hg.1
      have hcc := hc hg.1
      have ok : ∀ i : Nat, i < l.length → OkAt l i := by
        rcases hq6 with hq6 | hq6
        · omega
        · exact fun i hi => hq6 i (by omega) (by omega)
      obtain ⟨bs, bi⟩ := bytes_both l hl ok
      obtain ⟨r1, r2, r3⟩ := r
      obtain ⟨q1, q2⟩ := q
      simp only at hg h7 hcc
      obtain ⟨hg1, hg2⟩ := hg
      subst hg1
      obtain ⟨dp, hdp⟩ := Int.eq_ofNat_of_zero_le (show 0 ≤ q2 by unfold IV at hq5; simp only at hq5; omega)
      obtain rfl : r2 = (dp : Int) := by omega
      obtain rfl : r1 = (l.length : Int) := hg2
      obtain rfl : q1 = (l.length : Int) := h7.1
      obtain rfl : q2 = (dp : Int) := hdp
      refine ⟨decide (((itemsText l).size : Int) ≤ 400), ?_, ?_, fun h => ⟨ok, by have := of_decide_eq_true h; omega, h40.1, h40.2, dp, hr0, hq0, by omega⟩⟩
      · simp only [spec_GoodItems.f, spec_l2Good.f]
        refine Ev.bind (Ev.bind hr0 (Ev.ite_pos rfl (Ev.ite_pos rfl (Ev.now _)))) ?_
        refine Ev.ite_pos (decide_eq_true (by omega)) (Ev.bind bs (Ev.now _))
      · simp only [impl_GoodItems.f, implWithin, Option.bind_some]
        refine Ev.ite_pos (decide_eq_true (by omega)) (Ev.bind hq0 (Ev.ite_pos rfl (Ev.ite_pos (by simp only; omega) (Ev.bind bi (Ev.now _)))))
    · refine ⟨false, ?_, ?_, fun h => by cases h⟩
      · simp only [spec_GoodItems.f, spec_l2Good.f]
        refine Ev.bind (a := false) (Ev.bind hr0 ?_) (Ev.ite_neg (by simp) (Ev.now _))
        refine Ev.ite (fun h1 => Ev.ite_neg (fun h2 => hg ⟨h1, h2⟩) (Ev.now _)) fun _ => Ev.now _
      · simp only [impl_GoodItems.f, implWithin, Option.bind_some]
        refine Ev.ite_pos (decide_eq_true (by omega)) (Ev.bind hq0 ?_)
        refine Ev.ite (fun h1 => Ev.ite_neg ?_ (Ev.now _)) fun _ => Ev.now _
        intro h5
        cases hb : r.2.2 with
        | true =>
          have h7 := hq3.1 hb
          exact hg ⟨hb, by omega⟩
        | false =>
          have h7 := hq3.2 hb
          omega
  · refine ⟨false, ?_, ?_, fun h => by cases h⟩
    · simp only [spec_GoodItems.f, spec_l2Good.f]
      refine Ev.bind (a := false) (Ev.bind hr0 ?_) (Ev.ite_neg (by simp) (Ev.now _))
      refine Ev.ite (fun h1 => Ev.ite (fun h2 => ?_) fun _ => Ev.now _) fun _ => Ev.now _
      have := hc h1
      exact Ev.now' (decide_eq_false (by omega))
    · simp only [impl_GoodItems.f, implWithin, Option.bind_some]
      exact Ev.ite_neg (by simp; omega) (Ev.now _)
theorem itemsBytes_both (l : List S53) (hl : l.length ≤ 1048576) (hs : ∀ a : Nat, a < l.length → (rd_T53 l (a : Int)).f2.size ≤ 4611686018427387904) (hm : ∀ a : Nat, a < l.length → (rd_T53 l (a : Int)).f3 ≤ 9223372036854775807) :
    ∃ v : ByteArray × Bool, Ev (fun k => spec_ItemsBytes.f k l) v ∧ Ev (fun k => impl_ItemsBytes.f k l) v := by
  obtain ⟨b, x, y, z⟩ := goodItems_both l hl hs hm
  cases b with
  | false =>
    refine ⟨((⟨#[]⟩ : ByteArray), false), ?_, ?_⟩
    · simp only [spec_ItemsBytes.f]; exact Ev.bind x (Ev.ite_neg (by simp) (Ev.now _))
    · simp only [impl_ItemsBytes.f]; exact Ev.bind y (Ev.ite_neg (by simp) (Ev.now _))
  | true =>
    obtain ⟨ok, _⟩ := z rfl
    obtain ⟨p, q⟩ := bytes_both l hl ok
    refine ⟨(itemsText l, true), ?_, ?_⟩
    · simp only [spec_ItemsBytes.f]; exact Ev.bind x (Ev.ite_pos rfl (Ev.bind p (Ev.now _)))
    · simp only [impl_ItemsBytes.f]; exact Ev.bind y (Ev.ite_pos rfl (Ev.bind q (Ev.now _)))
theorem rdL_eq (l : List S86) (i : Nat) (h : i < l.length) : rd_T86 l (i : Int) = l[i] := by
  simp [rd_T86, List.getD_eq_getElem?_getD, List.getElem?_eq_getElem h]
def itemOf (x : S86) : S53 := ⟨x.f0, x.f1, x.f2, x.f3⟩
theorem szItemS_go (l : List S86) (hl : l.length ≤ 1048576) (hs : ∀ i : Nat, i < l.length → (rd_T86 l (i : Int)).f2.size ≤ maxLen) (d : Nat) : ∀ (i : Nat) (left : Int), i ≤ l.length → l.length - i = d → 0 ≤ left → left ≤ 1048576 →
    ∃ r, Ev (fun k => laws_szItemS.l0 k l left (i : Int)) r ∧ (0 ≤ r → ∀ j : Nat, i ≤ j → j < l.length → (rd_T86 l (j : Int)).f2.size ≤ 1048576) := by
  induction d with
  | zero =>
    intro i left h0 hd h1 h2
    refine ⟨left, ?_, fun _ j h3 h4 => by omega⟩
    refine Ev.step (fun k => by rw [laws_szItemS.l0]) ?_
    exact Ev.ite_neg (by omega) (Ev.now _)
  | succ d ih =>
    intro i left h0 hd h1 h2
    have hi : i < l.length := by omega
    have hw : wrap64 ((i : Int) + 1) = ((i + 1 : Nat) : Int) := by rw [w64 (by omega) (by omega)]; omega
    have hz := hs i hi
    unfold maxLen at hz
    have hw2 : wrap64 (left - ((rd_T86 l (i : Int)).f2.size : Int)) = left - ((rd_T86 l (i : Int)).f2.size : Int) := w64 (by omega) (by omega)
    by_cases hn : left - ((rd_T86 l (i : Int)).f2.size : Int) < 0
    · refine ⟨-1, ?_, fun h => by omega⟩
      refine Ev.step (fun k => by rw [laws_szItemS.l0]) ?_
      refine Ev.ite_pos (by omega) (Ev.ite_pos (by omega) ?_)
      simp only [laws_szItem.f, hw2, if_pos hn, Option.bind_some]
      exact Ev.ite_pos (by omega) (Ev.now _)
    · obtain ⟨r, a, b⟩ := ih (i + 1) (left - ((rd_T86 l (i : Int)).f2.size : Int)) (by omega) (by omega) (by omega) (by omega)
      refine ⟨r, ?_, fun h j h3 h4 => ?_⟩
      · refine Ev.step (fun k => by rw [laws_szItemS.l0]) ?_
        refine Ev.ite_pos (by omega) (Ev.ite_pos (by omega) ?_)
        simp only [laws_szItem.f, hw2, if_neg hn, Option.bind_some]
        rw [hw]
        exact a
      · rcases Nat.lt_or_ge i j with h5 | h5
        · exact b h j h5 h4
        · obtain rfl : j = i := by omega
          omega
theorem szItemS_val (l : List S86) (hl : l.length ≤ maxLen) (hs : ∀ i : Nat, i < l.length → (rd_T86 l (i : Int)).f2.size ≤ maxLen) :
    ∃ r, Ev (fun k => laws_szItemS.f k l 1048576) r ∧ (0 ≤ r → l.length ≤ 1048576 ∧ ∀ j : Nat, j < l.length → (rd_T86 l (j : Int)).f2.size ≤ 1048576) := by
  unfold maxLen at hl
  have hw : wrap64 (1048576 - (l.length : Int)) = 1048576 - (l.length : Int) := w64 (by omega) (by omega)
  simp only [laws_szItemS.f, hw]
  by_cases h : 1048576 - (l.length : Int) < 0
  · exact ⟨-1, Ev.ite_pos h (Ev.now _), fun h => by omega⟩
  · obtain ⟨r, a, b⟩ := szItemS_go l (by omega) hs l.length 0 (1048576 - (l.length : Int)) (by omega) (by omega) (by omega) (by omega)
    exact ⟨r, Ev.ite_neg h a, fun h' => ⟨by omega, fun j hj => b h' j (by omega) hj⟩⟩
theorem toItemS_go (l : List S86) (hl : l.length ≤ 1048576) (d : Nat) : ∀ i : Nat, i ≤ l.length → l.length - i = d → Ev (fun k => laws_toItemS.l0 k l ((l.map itemOf).take i ++ List.replicate ((l.map itemOf).length - i) z53) (i : Int)) (l.map itemOf) := by
  induction d with
  | zero =>
    intro i h0 hd
    obtain rfl : i = l.length := by omega
    refine Ev.step (fun k => by rw [laws_toItemS.l0]) ?_
    exact Ev.ite_neg (by omega) (Ev.now' (by rw [List.length_map, Nat.sub_self, List.replicate_zero, List.append_nil, List.take_of_length_le (by simp)]))
  | succ d ih =>
    intro i h0 hd
    have hlt : i < l.length := by omega
    have hlt2 : i < (l.map itemOf).length := by simpa using hlt
    have hw : wrap64 ((i : Int) + 1) = ((i + 1 : Nat) : Int) := by rw [w64 (by omega) (by omega)]; omega
    have hlen : ((l.map itemOf).take i ++ List.replicate ((l.map itemOf).length - i) z53).length = l.length := by simp; omega
    have a := ih (i + 1) (by omega) (by omega)
    rw [← fill_step (l.map itemOf) z53 i hlt2] at a
    refine Ev.step (fun k => by rw [laws_toItemS.l0]) ?_
    refine Ev.ite_pos (by omega) (Ev.ite_pos (by omega) ?_)
    simp only [laws_toItem.f, Option.bind_some, hw, Int.toNat_natCast, rdL_eq l i hlt]
    refine Ev.ite_pos (by rw [hlen]; omega) ?_
    have e : (l.map itemOf)[i] = (⟨l[i].f0, l[i].f1, l[i].f2, l[i].f3⟩ : S53) := by simp [itemOf]
    rw [e] at a
    exact a
theorem toItemS_val (l : List S86) (hl : l.length ≤ 1048576) : Ev (fun k => laws_toItemS.f k l) (l.map itemOf) := by
  have := toItemS_go l hl l.length 0 (by omega) (by omega)
  simp only [laws_toItemS.f, Int.toNat_natCast]
  refine Ev.ite_pos (by omega) (Ev.ite_pos (by omega) ?_)
  simpa using this
theorem eqItemS_go (l : List S53) (hl : l.length ≤ 1048576) (d : Nat) : ∀ i : Nat, l.length - i = d → Ev (fun k => laws_eqItemS.l0 k l l (i : Int)) true := by
  induction d with
  | zero =>
    intro i hd
    refine Ev.step (fun k => by rw [laws_eqItemS.l0]) ?_
    exact Ev.ite_neg (by omega) (Ev.now _)
  | succ d ih =>
    intro i hd
    have hw : wrap64 ((i : Int) + 1) = ((i + 1 : Nat) : Int) := by rw [w64 (by omega) (by omega)]; omega
    refine Ev.step (fun k => by rw [laws_eqItemS.l0]) ?_
    refine Ev.ite_pos (by omega) (Ev.ite_pos (by omega) (Ev.ite_pos (by omega) ?_))
    simp only [laws_eqItem.f, if_true, Option.bind_some, hw]
    exact ih (i + 1) (by omega)
theorem eqItemS_self (l : List S53) (hl : l.length ≤ 1048576) : Ev (fun k => laws_eqItemS.f k l l) true := by
  simp only [laws_eqItemS.f, if_true]
  exact (eqItemS_go l hl l.length 0 (by omega))
/-- What the row tells of each item. -/
theorem items_told (l : List S86) (h : ∀ x ∈ l, ok86 x) (hs : ∀ j : Nat, j < l.length → (rd_T86 l (j : Int)).f2.size ≤ 1048576) :
    (∀ a : Nat, a < (l.map itemOf).length → (rd_T53 (l.map itemOf) (a : Int)).f2.size ≤ 4611686018427387904) ∧ (∀ a : Nat, a < (l.map itemOf).length → (rd_T53 (l.map itemOf) (a : Int)).f3 ≤ 9223372036854775807) := by
  have e : ∀ a : Nat, a < (l.map itemOf).length → rd_T53 (l.map itemOf) (a : Int) = itemOf (rd_T86 l (a : Int)) := by
    intro a ha
    have ha' : a < l.length := by simpa using ha
    rw [rdL_eq l a ha']
    simp [rd_T53, List.getD_eq_getElem?_getD, ha']
  refine ⟨fun a ha => ?_, fun a ha => ?_⟩
  · rw [e a ha]
    have := hs a (by simpa using ha)
    simp only [itemOf]
    omega
  · rw [e a ha]
    have ha' : a < l.length := by simpa using ha
    have := h l[a] (List.getElem_mem ha')
    rw [rdL_eq l a ha']
    exact (wf_i64 this.2.2.2).2
theorem items_sizes (l : List S86) (h : ∀ x ∈ l, ok86 x) : ∀ i : Nat, i < l.length → (rd_T86 l (i : Int)).f2.size ≤ maxLen := by
  intro i hi
  rw [rdL_eq l i hi]
  exact (h l[i] (List.getElem_mem hi)).2.2.1
theorem FnExactItemsBytes : Go.Proofs.Ytkljbkminihlbaa.GoalFnExactItemsBytes.Goal := by
  intro l h0 _ h1
  refine Ev.rounds ?_
  obtain ⟨r, hr, hr2⟩ := szItemS_val l h0 (items_sizes l h1)
  simp only [laws_FnExactItemsBytes.f]
  refine Ev.bind hr (Ev.ite (fun _ => Ev.now _) fun hn => ?_)
  obtain ⟨hl, hsz⟩ := hr2 (by omega)
  obtain ⟨g1, g2⟩ := items_told l h1 hsz
  have hl2 : (l.map itemOf).length ≤ 1048576 := by simpa using hl
  obtain ⟨v, v1, v2⟩ := itemsBytes_both (l.map itemOf) hl2 g1 g2
  refine Ev.bind (toItemS_val l hl) (Ev.bind v1 (Ev.bind (toItemS_val l hl) (Ev.bind v2 ?_)))
  simp only [if_true]
  refine Ev.step (fun k => by rw [laws_FnExactItemsBytes.j0]) ?_
  refine Ev.ite_neg (by simp) (Ev.bind (toItemS_val l hl) (Ev.bind (eqItemS_self _ hl2) ?_))
  exact Ev.now' (by simp)

end Go.Proofs.Ytkljbkminihlbaa.Pure
