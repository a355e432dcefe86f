import Derived.Test.YtlkbbolkadkedaaPD0
import Derived.Test.YtlkbbolkadkedaaU3
namespace Go.Proofs.Ytlkbbolkadkedaa.QFnPieces
open Go.RowKit Go.Proofs.Ytlkbbolkadkedaa.Pure Go.Proofs.Ytlkbbolkadkedaa.Plain Go.Proofs.YtlkbbolkadkedaaW.PrintWords Go.Proofs.YtlkbbolkadkedaaW.PrintLast Go.Proofs.YtlkbbolkadkedaaW.PrintMore
attribute [local go_sem] max2_int min2_int max_two min_two max_three min_three max_four min_four
set_option linter.unusedVariables false
set_option linter.unusedSimpArgs false
theorem ok8_range {x : S46} (h : Ok8 x) : -9223372036854775808 ≤ x.f8 ∧ x.f8 ≤ 9223372036854775807 := by
  obtain ⟨a, b⟩ := h
  omega
theorem ok8_part {b x : S46} (hb : WholeP b) (h : PartOf b x) : Ok8 x := by
  have := (h.piece hb).told
  exact ⟨by omega, by omega⟩
theorem cutB (x : S46) (h : Ok8 x) (most : Int) : ∃ (v : List S46) (c : Bool), v.length ≤ 60 ∧ (c = false → v = []) ∧ (c = true → WholeP x ∧ (∀ y ∈ v, PartOf x y) ∧ ∀ a : Int, 0 ≤ a → a < x.f9.size → ∃ y ∈ v, InP y a) ∧
    (∀ w, Calls Try.prog 32 #[.agg #[.int .i64 x.f0, .int .i64 x.f1, .bool x.f2, .int .i64 x.f3, .int .i64 x.f4, .int .i64 x.f5, .int .i64 x.f6, .int .i64 x.f7, .int .i64 x.f8, .string x.f9], .int .i64 most] w fun e w' => ∃ A cap, e = .returned (.tuple #[.slice A v.length cap, .bool c]) ∧ v.length ≤ cap ∧ Row w.heap.size w' (.slice A v.length cap) v ∧ Below w.heap.size w w') ∧
    (∀ w, Calls Try.prog 33 #[.agg #[.int .i64 x.f0, .int .i64 x.f1, .bool x.f2, .int .i64 x.f3, .int .i64 x.f4, .int .i64 x.f5, .int .i64 x.f6, .int .i64 x.f7, .int .i64 x.f8, .string x.f9], .int .i64 most] w fun e w' => ∃ A cap, e = .returned (.tuple #[.slice A v.length cap, .bool c]) ∧ v.length ≤ cap ∧ Row w.heap.size w' (.slice A v.length cap) v ∧ Below w.heap.size w w') := by
  obtain ⟨v, c, hv, ⟨K, hS⟩, ⟨K', hI⟩, h0, h1⟩ := cut_told x most (ok8_range h)
  refine ⟨v, c, hv, h0, h1, fun w => ?_, fun w => ?_⟩
  · refine (impl_CutBundle.calls K' x.f0 x.f1 x.f2 x.f3 x.f4 x.f5 x.f6 x.f7 x.f8 x.f9 most v c w (hI K' (Nat.le_refl _))).mono ?_
    rintro e w' ⟨v0, rfl, hr, hb⟩
    obtain ⟨A, cap, rfl, hc, _⟩ := Kd.R_reads hr
    exact ⟨A, cap, rfl, hc, hr, hb⟩
  · refine (spec_CutBundle.calls K x.f0 x.f1 x.f2 x.f3 x.f4 x.f5 x.f6 x.f7 x.f8 x.f9 most v c w (hS K (Nat.le_refl _))).mono ?_
    rintro e w' ⟨v0, rfl, hr, hb⟩
    obtain ⟨A, cap, rfl, hc, _⟩ := Kd.R_reads hr
    exact ⟨A, cap, rfl, hc, hr, hb⟩
theorem cutS_any (x : S46) (most : Int) (h : Ok8 x) (w : World) : Calls Try.prog 33 #[.agg #[.int .i64 x.f0, .int .i64 x.f1, .bool x.f2, .int .i64 x.f3, .int .i64 x.f4, .int .i64 x.f5, .int .i64 x.f6, .int .i64 x.f7, .int .i64 x.f8, .string x.f9], .int .i64 most] w fun e w' => ∃ (A : Option Addr) (cap : Nat) (l : List S46) (c : Bool), e = .returned (.tuple #[.slice A l.length cap, .bool c]) ∧ l.length ≤ cap ∧ Row w.heap.size w' (.slice A l.length cap) l ∧ l.length ≤ 60 ∧ (∀ y ∈ l, Ok8 y) ∧ (c = true → 0 < l.length) ∧ Below w.heap.size w w' := by
  obtain ⟨v, c, hv, h0, h1, _, hS⟩ := cutB x h most
  refine (hS w).mono ?_
  rintro e w' ⟨A, cap, rfl, hc, hr, hb⟩
  refine ⟨A, cap, v, c, rfl, hc, hr, hv, fun y hy => ?_, fun hc => ?_, hb⟩
  · cases c with
    | false => rw [h0 rfl] at hy; exact absurd hy (by simp)
    | true => exact ok8_part (h1 rfl).1 ((h1 rfl).2.1 y hy)
  · obtain ⟨⟨_, _, _, hs⟩, _, h4⟩ := h1 hc
    obtain ⟨y, hy, _⟩ := h4 0 (Int.le_refl 0) (by omega)
    exact List.length_pos_of_mem hy
def cutL (q : S46) (n : Nat) : S46 := ⟨q.f0, q.f1, q.f2, q.f3, q.f4, q.f5, q.f6, q.f7, q.f8, q.f9.extract 0 n⟩
def cutR (q : S46) (n : Nat) : S46 := ⟨q.f0, q.f1, q.f2, q.f3, q.f4, q.f5, q.f6, q.f7 + (n : Int), q.f8, q.f9.extract n q.f9.size⟩
theorem cutP (q : S46) (h : Ok8 q) (at_ : Int) : ∃ (c d : S46) (s : Bool), (s = true → ∃ n : Nat, at_ = n ∧ 1 ≤ n ∧ n < q.f9.size ∧ PieceP q ∧ c = cutL q n ∧ d = cutR q n) ∧ (PieceP q → 1 ≤ at_ → at_ ≤ (q.f9.size : Int) - 1 → s = true) ∧
    (∀ w, Calls Try.prog 35 #[.agg #[.int .i64 q.f0, .int .i64 q.f1, .bool q.f2, .int .i64 q.f3, .int .i64 q.f4, .int .i64 q.f5, .int .i64 q.f6, .int .i64 q.f7, .int .i64 q.f8, .string q.f9], .int .i64 at_] w fun e w' => e = .returned (.tuple #[.agg #[.int .i64 c.f0, .int .i64 c.f1, .bool c.f2, .int .i64 c.f3, .int .i64 c.f4, .int .i64 c.f5, .int .i64 c.f6, .int .i64 c.f7, .int .i64 c.f8, .string c.f9], .agg #[.int .i64 d.f0, .int .i64 d.f1, .bool d.f2, .int .i64 d.f3, .int .i64 d.f4, .int .i64 d.f5, .int .i64 d.f6, .int .i64 d.f7, .int .i64 d.f8, .string d.f9], .bool s]) ∧ Below w.heap.size w w') ∧
    (∀ w, Calls Try.prog 38 #[.agg #[.int .i64 q.f0, .int .i64 q.f1, .bool q.f2, .int .i64 q.f3, .int .i64 q.f4, .int .i64 q.f5, .int .i64 q.f6, .int .i64 q.f7, .int .i64 q.f8, .string q.f9], .int .i64 at_] w fun e w' => e = .returned (.tuple #[.agg #[.int .i64 c.f0, .int .i64 c.f1, .bool c.f2, .int .i64 c.f3, .int .i64 c.f4, .int .i64 c.f5, .int .i64 c.f6, .int .i64 c.f7, .int .i64 c.f8, .string c.f9], .agg #[.int .i64 d.f0, .int .i64 d.f1, .bool d.f2, .int .i64 d.f3, .int .i64 d.f4, .int .i64 d.f5, .int .i64 d.f6, .int .i64 d.f7, .int .i64 d.f8, .string d.f9], .bool s]) ∧ Below w.heap.size w w') := by
  obtain ⟨r, ⟨K, hS⟩, ⟨K', hI⟩, hr⟩ := cutPiece_told q.f0 q.f1 q.f2 q.f3 q.f4 q.f5 q.f6 q.f7 q.f8 q.f9 at_ (ok8_range h)
  rcases hr with ⟨rfl, hn⟩ | ⟨n, rfl, h1, h2, hg, h8, rfl⟩
  · exact ⟨z46, z46, false, fun h => absurd h (by decide), fun hp h3 h4 => absurd ⟨hp.1, hp.2, h3, h4⟩ hn, fun w => impl_CutPiece.calls K' q.f0 q.f1 q.f2 q.f3 q.f4 q.f5 q.f6 q.f7 q.f8 q.f9 at_ _ _ _ _ _ _ _ _ _ _ _ _ _ _ _ _ _ _ _ _ _ w (hI K' (Nat.le_refl _)), fun w => spec_CutPiece.calls K q.f0 q.f1 q.f2 q.f3 q.f4 q.f5 q.f6 q.f7 q.f8 q.f9 at_ _ _ _ _ _ _ _ _ _ _ _ _ _ _ _ _ _ _ _ _ _ w (hS K (Nat.le_refl _))⟩
  · exact ⟨cutL q n, cutR q n, true, fun _ => ⟨n, rfl, h1, h2, ⟨hg, h8⟩, rfl, rfl⟩, fun _ _ _ => rfl, fun w => impl_CutPiece.calls K' q.f0 q.f1 q.f2 q.f3 q.f4 q.f5 q.f6 q.f7 q.f8 q.f9 (n : Int) _ _ _ _ _ _ _ _ _ _ _ _ _ _ _ _ _ _ _ _ _ w (hI K' (Nat.le_refl _)), fun w => spec_CutPiece.calls K q.f0 q.f1 q.f2 q.f3 q.f4 q.f5 q.f6 q.f7 q.f8 q.f9 (n : Int) _ _ _ _ _ _ _ _ _ _ _ _ _ _ _ _ _ _ _ _ _ w (hS K (Nat.le_refl _))⟩
theorem cut_join (q : S46) (n : Nat) (h : n ≤ q.f9.size) : (cutL q n).f9 ++ (cutR q n).f9 = q.f9 := by
  simp only [cutL, cutR]
  refine ByteArray.ext (Array.ext ?_ fun i h1 h2 => ?_)
  · simp [ByteArray.data_extract]
  · simp [ByteArray.data_extract, Array.getElem_append]
theorem cutL_good {q : S46} {n : Nat} (h : PieceP q) (h0 : 1 ≤ n) (h1 : n < q.f9.size) : PieceP (cutL q n) := by
  have t := h.told
  obtain ⟨hg, h8⟩ := h
  refine ⟨?_, h8⟩
  have z : (cutL q n).f9.size = n := by simp only [cutL, ByteArray.size_extract]; omega
  unfold GoodP at hg ⊢
  rw [z]
  simp only [cutL]
  omega
theorem cutR_good {q : S46} {n : Nat} (h : PieceP q) (h0 : 1 ≤ n) (h1 : n < q.f9.size) : PieceP (cutR q n) := by
  have t := h.told
  obtain ⟨hg, h8⟩ := h
  refine ⟨?_, h8⟩
  have z : (cutR q n).f9.size = q.f9.size - n := by simp only [cutR, ByteArray.size_extract]; omega
  unfold GoodP at hg ⊢
  rw [z]
  simp only [cutR]
  omega
theorem goodI (x : S46) (h : PieceP x) (w : World) : Calls Try.prog 39 #[.agg #[.int .i64 x.f0, .int .i64 x.f1, .bool x.f2, .int .i64 x.f3, .int .i64 x.f4, .int .i64 x.f5, .int .i64 x.f6, .int .i64 x.f7, .int .i64 x.f8, .string x.f9]] w fun e w' => e = .returned (.bool true) ∧ Below w.heap.size w w' := by
  have := h.told
  obtain ⟨K, hK⟩ := implGood x.f0 x.f1 x.f2 x.f3 x.f4 x.f5 x.f6 x.f7 x.f8 x.f9 ⟨by omega, by omega⟩
  have e := hK K (Nat.le_refl _)
  rw [decide_eq_true h.1] at e
  exact impl_GoodBundle.calls K x.f0 x.f1 x.f2 x.f3 x.f4 x.f5 x.f6 x.f7 x.f8 x.f9 true w e
theorem addP (b : S46) (hb : WholeP b) (l : List S46) (hl : PileOf b l) (x : S46) (hx : PartOf b x) : ∃ (v : List S46) (c : Bool), (c = true → PileOf b v ∧ (∀ y, y ∈ v ↔ y ∈ l ∨ y = x)) ∧ (c = false → l.length = 60) ∧ (x ∈ l → v = l ∧ c = true) ∧
    ∀ (A : Option Addr) (cap : Nat) (w : World), Kd.C k46 w A l.length l → l.length ≤ cap → Calls Try.prog 26 #[.agg #[.slice A l.length cap], .agg #[.int .i64 x.f0, .int .i64 x.f1, .bool x.f2, .int .i64 x.f3, .int .i64 x.f4, .int .i64 x.f5, .int .i64 x.f6, .int .i64 x.f7, .int .i64 x.f8, .string x.f9]] w fun e w' => ∃ A' cap', e = .returned (.tuple #[.agg #[.slice A' v.length cap'], .bool c]) ∧ v.length ≤ cap' ∧ Row w.heap.size w' (.slice A' v.length cap') v ∧ Below w.heap.size w w' := by
  obtain ⟨v, c, ⟨K, hK⟩, h1, h2, h3⟩ := add_part b hb l hl x hx
  refine ⟨v, c, h1, h2, h3, fun A cap w hC hc => ?_⟩
  refine (impl_AddPiece.calls K A cap l x.f0 x.f1 x.f2 x.f3 x.f4 x.f5 x.f6 x.f7 x.f8 x.f9 v c w hC hc (hK K (Nat.le_refl _))).mono ?_
  rintro e w' ⟨v0, rfl, hr, hb⟩
  obtain ⟨A', cap', rfl, hc', _⟩ := Kd.R_reads hr
  exact ⟨A', cap', rfl, hc', hr, hb⟩
theorem sameP (l : List S46) (hl : l.length ≤ 60) (A A' : Option Addr) (cap cap' : Nat) (w : World) (hC : Kd.C k46 w A l.length l) (hc : l.length ≤ cap) (hC' : Kd.C k46 w A' l.length l) (hc' : l.length ≤ cap') : Calls Try.prog 36 #[.agg #[.slice A l.length cap], .agg #[.slice A' l.length cap']] w fun e w' => e = .returned (.bool true) ∧ Below w.heap.size w w' := by
  obtain ⟨K, hK⟩ := samePiles_self l (by omega)
  exact laws_samePiles.calls K A cap l A' cap' l true w hC hc hC' hc' (hK K (Nat.le_refl _))
theorem wholeI (b : S46) (hb : WholeP b) (l : List S46) (hl : PileOf b l) (hc : ∀ a : Int, 0 ≤ a → a < b.f9.size → ∃ x ∈ l, InP x a) (A : Option Addr) (cap : Nat) (w : World) (hC : Kd.C k46 w A l.length l) (hcap : l.length ≤ cap) : Calls Try.prog 29 #[.agg #[.slice A l.length cap]] w fun e w' => e = .returned (.tuple #[.agg #[.int .i64 b.f0, .int .i64 b.f1, .bool b.f2, .int .i64 b.f3, .int .i64 b.f4, .int .i64 b.f5, .int .i64 b.f6, .int .i64 b.f7, .int .i64 b.f8, .string b.f9], .bool true]) ∧ Below w.heap.size w w' := by
  obtain ⟨_, K, hK⟩ := whole_part b hb l hl hc
  have e := hK K (Nat.le_refl _)
  obtain ⟨_, h8, h7, _⟩ := hb
  rw [h7, h8]
  exact impl_WholeOf.calls K A cap l _ _ _ _ _ _ _ _ _ _ _ w hC hcap e
theorem missI (b : S46) (hb : WholeP b) (l : List S46) (hl : PileOf b l) (hc : ∀ a : Int, 0 ≤ a → a < b.f9.size → ∃ x ∈ l, InP x a) (A : Option Addr) (cap : Nat) (w : World) (hC : Kd.C k46 w A l.length l) (hcap : l.length ≤ cap) : Calls Try.prog 22 #[.agg #[.slice A l.length cap]] w fun e w' => e = .returned (.tuple #[.int .i64 0, .bool true]) ∧ Below w.heap.size w w' := by
  obtain ⟨⟨K, hK⟩, _⟩ := whole_part b hb l hl hc
  exact impl_MissingIn.calls K A cap l _ _ w hC hcap (hK K (Nat.le_refl _))
theorem numI (c : List Int) (hl : c.length ≤ 1048576) (hb : ∀ x ∈ c, 0 ≤ x ∧ x ≤ 255) : ∃ r : Int, 0 ≤ r ∧ r < 1000003 ∧ ∀ (A : Option Addr) (cap : Nat) (w : World), Kd.C (Kd.int .u8) w A c.length c → c.length ≤ cap → Calls Try.prog 34 #[.slice A c.length cap] w fun e w' => e = .returned (.int .i64 r) ∧ Drawn0 w w' := by
  obtain ⟨r, ⟨K, hK⟩, h0, h1⟩ := numberOf_told c hl hb
  exact ⟨r, h0, h1, fun A cap w hC hc => laws_numberOf.calls K A cap c r w hC hc (hK K (Nat.le_refl _))⟩
end Go.Proofs.Ytlkbbolkadkedaa.QFnPieces
