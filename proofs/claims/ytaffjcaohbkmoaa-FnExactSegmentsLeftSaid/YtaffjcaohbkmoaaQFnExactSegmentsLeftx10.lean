import Derived.Test.YtaffjcaohbkmoaaQFnExactSegmentsLeftx0
import Derived.Test.YtaffjcaohbkmoaaQFnExactSegmentsLeftx9
import Derived.Test.YtaffjcaohbkmoaaSr
namespace Go.Proofs.Ytaffjcaohbkmoaa.QFnExactSegmentsLeft
open Go.RowKit Go.Proofs.YtaffjcaohbkmoaaW.PrintWords Go.Proofs.YtaffjcaohbkmoaaW.PrintLast Go.Proofs.YtaffjcaohbkmoaaW.PrintMore
attribute [local go_sem] max2_int min2_int max_two min_two max_three min_three max_four min_four   -- for this text's walks alone
set_option linter.unusedVariables false
set_option linter.unusedSimpArgs false
structure SegStep (b : Nat) (w W : World) : Prop where
 below : Below b w W
 other : ∀ (k : Nat) (o : Obj), w.heap[k]? = some o → (∀ c, o ≠ Obj.cells c 4 (0, 0)) → (∀ c, o ≠ Obj.cells c 100 (0, 0)) → W.heap[k]? = some o
 bools : ∀ (k : Nat) (c : Array Value), w.heap[k]? = some (Obj.cells c 4 (0, 0)) → ∃ c' : Array Value, W.heap[k]? = some (Obj.cells c' 4 (0, 0)) ∧ c'.size = c.size
 segs : ∀ (k : Nat) (c : Array Value), w.heap[k]? = some (Obj.cells c 100 (0, 0)) → ∃ c' : Array Value, W.heap[k]? = some (Obj.cells c' 100 (0, 0)) ∧ c'.size = c.size ∧ ∀ i, i % 5 = 4 → c'[i]? = c[i]?
theorem SegStep.refl (b : Nat) (w : World) : SegStep b w w := ⟨Below.refl _ _, fun _ _ h _ _ => h, fun _ c h => ⟨c, h, rfl⟩, fun _ c h => ⟨c, h, rfl, fun _ _ => rfl⟩⟩
theorem SegStep.trans {b : Nat} {w W V : World} (h : SegStep b w W) (h2 : SegStep b W V) : SegStep b w V := by
 refine ⟨h.below.trans h2.below, fun k o ho n1 n2 => h2.other k o (h.other k o ho n1 n2) n1 n2, fun k c hc => ?_, fun k c hc => ?_⟩
 ·obtain ⟨c1, e1, s1⟩ := h.bools k c hc; obtain ⟨c2, e2, s2⟩ := h2.bools k c1 e1; exact ⟨c2, e2, s2.trans s1⟩
 ·obtain ⟨c1, e1, s1, t1⟩ := h.segs k c hc; obtain ⟨c2, e2, s2, t2⟩ := h2.segs k c1 e1; exact ⟨c2, e2, s2.trans s1, fun i hi => (t2 i hi).trans (t1 i hi)⟩
theorem SegStep.of_below {b : Nat} {w W : World} (h : Below w.heap.size w W) (hb : b ≤ w.heap.size) : SegStep b w W := by
 have hk : ∀ (k : Nat) (o : Obj), w.heap[k]? = some o → W.heap[k]? = some o := fun k o ho => (h.block k (blk_lt ho)).trans ho
 exact ⟨h.mono hb, fun k o ho _ _ => hk k o ho, fun k c hc => ⟨c, hk k _ hc, rfl⟩, fun k c hc => ⟨c, hk k _ hc, rfl, fun _ _ => rfl⟩⟩
theorem SegStep.below_ {b : Nat} {w W V : World} (h : SegStep b w W) (hb : b ≤ w.heap.size) (h2 : Below W.heap.size W V) : SegStep b w V := h.trans (SegStep.of_below h2 (Nat.le_trans hb h.below.size))
theorem SegStep.setB {b : Nat} {w W : World} (h : SegStep b w W) {g : Nat} {c : Array Value} (hg : W.heap[g]? = some (Obj.cells c 4 (0, 0))) (hb : b ≤ g) (i : Nat) (u : Value) : SegStep b w (W.setCell ⟨g, i, none⟩ u) := by
 have far : ∀ k, k ≠ g → (W.setCell ⟨g, i, none⟩ u).heap[k]? = W.heap[k]? := fun k hk => Below.heap_setCell W ⟨g, i, none⟩ u k hk
 refine h.trans ⟨(Below.refl b W).setCell hb u, fun k o ho n1 _ => ?_, fun k c' hc => ?_, fun k c' hc => ?_⟩
 ·by_cases e : k = g
  ·subst e; rw [hg] at ho; exact absurd (Option.some.inj ho).symm (n1 c)
  ·exact (far k e).trans ho
 ·by_cases e : k = g
  ·subst e; exact ⟨_, blk_set hc i u, Array.size_setIfInBounds⟩
  ·exact ⟨c', (far k e).trans hc, rfl⟩
 ·by_cases e : k = g
  ·subst e; rw [hg] at hc; injection hc with hc; injection hc with _ hc; exact absurd hc (by decide)
  ·exact ⟨c', (far k e).trans hc, rfl, fun _ _ => rfl⟩
theorem SegStep.setS {b : Nat} {w W : World} (h : SegStep b w W) {g : Nat} {c : Array Value} (hg : W.heap[g]? = some (Obj.cells c 100 (0, 0))) (hb : b ≤ g) (i : Nat) (hi : i % 5 ≠ 4) (u : Value) : SegStep b w (W.setCell ⟨g, i, none⟩ u) := by
 have far : ∀ k, k ≠ g → (W.setCell ⟨g, i, none⟩ u).heap[k]? = W.heap[k]? := fun k hk => Below.heap_setCell W ⟨g, i, none⟩ u k hk
 refine h.trans ⟨(Below.refl b W).setCell hb u, fun k o ho _ n2 => ?_, fun k c' hc => ?_, fun k c' hc => ?_⟩
 ·by_cases e : k = g
  ·subst e; rw [hg] at ho; exact absurd (Option.some.inj ho).symm (n2 c)
  ·exact (far k e).trans ho
 ·by_cases e : k = g
  ·subst e; rw [hg] at hc; injection hc with hc; injection hc with _ hc; exact absurd hc (by decide)
  ·exact ⟨c', (far k e).trans hc, rfl⟩
 ·by_cases e : k = g
  ·subst e; refine ⟨_, blk_set hc i u, Array.size_setIfInBounds, fun j hj => ?_⟩; rw [Array.getElem?_setIfInBounds_ne (by rintro rfl; exact hi hj)]
  ·exact ⟨c', (far k e).trans hc, rfl, fun _ _ => rfl⟩
def RowB (b : Nat) (w : World) (v : Value) (n : Nat) : Prop := (v = .slice none 0 0 ∧ n = 0) ∨ ∃ g cap c, v = .slice (some ⟨g, 0, none⟩) n cap ∧ b ≤ g ∧ w.heap[g]? = some (Obj.cells c 4 (0, 0)) ∧ n ≤ c.size
theorem RowB.step {b n : Nat} {w W : World} {v : Value} (h : RowB b w v n) (hs : SegStep b w W) : RowB b W v n := by
 rcases h with h | ⟨g, cap, c, rfl, hb, hg, hn⟩
 ·exact .inl h
 ·obtain ⟨c', e, s⟩ := hs.bools g c hg; exact .inr ⟨g, cap, c', rfl, hb, e, s ▸ hn⟩
theorem RowB.of_own {b n : Nat} {w : World} {v : Value} {xs : List Value} (h : w.ownsRow b 4 1 v n xs) : RowB b w v n := by
 obtain ⟨_, h⟩ := h; rcases h with h | ⟨g, cap, cur, rfl, hb, hg, h1, h2, h3, h4⟩
 ·exact .inl h
 ·exact .inr ⟨g, cap, cur, rfl, hb, hg, by omega⟩
theorem laws_markBoolS.seg (b n : Nat) (v : Value) (a1 : Int) (w : World) (hb : b ≤ w.heap.size) (hr : RowB b w v n) (h0 : 0 ≤ a1) (h1 : a1 + (n : Int) ≤ 4611686018427387904) :
  Calls Try.prog 59 #[v, .int .i64 a1] w fun e w' => e = .returned (.int .i64 (a1 + (n : Int))) ∧ SegStep b w w' := by
 have HR := Aside0.mk hr; clear hr; have HS := Aside0.mk (SegStep.refl b w); obtain ⟨A, cap, rfl⟩ : ∃ A cap, v = .slice A n cap := by
  rcases HR.out with ⟨rfl, rfl⟩ | ⟨g, cap, c, rfl, _⟩ <;> exact ⟨_, _, rfl⟩
 go_enter Try.func59, Try.ntmps59
 go_wp2
 go_loopg [1, 5] (n + 1) (fun kq v1 v5 w' => ∃ i : Nat, v1 = .int .i64 (a1 + (i : Int)) ∧ v5 = .int .i64 (i : Int) ∧ Aside0 (i ≤ n ∧ kq + i = n + 1) ∧ Aside0 (SegStep b w w'))
 case atStart => exact ⟨0, by simp, rfl, ⟨by omega, by omega⟩, HS⟩
 case round =>
  obtain ⟨i, rfl, rfl, HI, HS'⟩ := hrel; have hi := HI.out; cases gk with
  | zero => omega
  | succ k1 =>
   by_cases c3 : i < n
   ·have c3b0 : decide ((i : Int) < (n : Int)) = true := decide_eq_true (by omega); have c4b0 : decide (0 ≤ (i : Int)) = true := decide_eq_true (by omega); obtain ⟨g, cap', c, e, hbg, hg, hn⟩ : ∃ g cap' c, Value.slice A n cap = .slice (some ⟨g, 0, none⟩) n cap' ∧ b ≤ g ∧ wr.heap[g]? = some (Obj.cells c 4 (0, 0)) ∧ n ≤ c.size := by
     rcases HR.out.step HS'.out with ⟨_, e⟩ | h
     ·omega
     ·exact h
    injection e with eA en ec
    subst eA; have hx5_0 : wr.cell? ⟨g, i, none⟩ = some c[i] := by rw [blk_cell hg]; simp
    have hf5_0 : wr.frozen? ⟨g, i, none⟩ = false := blk_frozen hg i; have hs := fun u => Aside0.mk (SegStep.setB HS'.out hg hbg i u)
    subst ec; go_wp2; go_roundg k1
    case measure => omega
    case rel => exact ⟨i + 1, by simp; omega, by simp, ⟨by omega, by omega⟩, hs _⟩
   ·have c3b0 : decide ((i : Int) < (n : Int)) = false := decide_eq_false (by omega); have e : i = n := by omega
    subst e; go_wp2; go_ret; exact ⟨rfl, HS'.out⟩
theorem markText_some (d : Nat) : ∀ (n : Nat) (t : ByteArray), n < 10 ^ d → n ≤ 4611686018427387904 → t.size + d ≤ 100 → ∃ (k : Nat) (r : ByteArray), laws_markText.l0 k (n : Int) t = some r := by
 have base : ∀ t : ByteArray, t.size ≤ 100 → laws_markText.l0 1 ((0 : Nat) : Int) t = some ((⟨#[109]⟩ : ByteArray) ++ t) := fun t ht => by
  rw [laws_markText.l0, if_neg (by decide), if_pos (by omega)]
 induction d with
 | zero =>
  intro n t h0 hb h1; obtain rfl : n = 0 := by simpa using h0
  exact ⟨1, _, base t (by omega)⟩
 | succ d ih =>
  intro n t h0 hb h1; by_cases hn : n = 0
  ·subst hn; exact ⟨1, _, base t (by omega)⟩
  ·have hq : wrap64 (Int.tdiv (n : Int) 10) = ((n / 10 : Nat) : Int) := by rw [Int.tdiv_eq_ediv_of_nonneg (by omega)]; unfold wrap64; omega
   have h10 : n / 10 < 10 ^ d := by rw [Nat.pow_succ] at h0; omega
   have hz : ∀ y : Int, (strOfNums [y]).size = 1 := fun y => by rw [strOfNums_size]; rfl
   obtain ⟨k, r, hr⟩ := ih (n / 10) (strOfNums [(wrap64 (48 + (Int.tmod (n : Int) 10))) % 256] ++ t) h10 (by omega) (by rw [ByteArray.size_append, hz]; omega); refine ⟨k + 1, r, ?_⟩; rw [laws_markText.l0, if_pos (by omega)]; simp only [Option.bind_some]; rw [hq, if_pos (by rw [hz]; omega)]; exact hr
theorem markText_run (a : Int) (h0 : 0 ≤ a) (h : a ≤ 4611686018427387904) (w : World) : ∃ r : ByteArray, Calls Try.prog 86 #[.int .i64 a] w fun e w' => e = .returned (.string r) ∧ Below w.heap.size w w' := by
 obtain ⟨n, rfl⟩ := Int.eq_ofNat_of_zero_le h0; by_cases hz : (n : Int) ≤ 0
 ·exact ⟨_, laws_markText.calls 0 n _ w (if_pos hz)⟩
 ·obtain ⟨k, r, hr⟩ := markText_some 20 n (⟨#[]⟩ : ByteArray) (by omega) (by omega) (by decide); exact ⟨r, laws_markText.calls k n r w ((if_neg hz).trans hr)⟩
theorem markText_any (a : Int) (h0 : 0 ≤ a) (h : a ≤ 4611686018427387904) (w : World) : Calls Try.prog 86 #[.int .i64 a] w fun e w' => (∃ r, e = .returned (.string r)) ∧ Below w.heap.size w w' := by
 obtain ⟨r, hr⟩ := markText_run a h0 h w; exact hr.mono (fun e w' h => ⟨⟨r, h.1⟩, h.2⟩)
def segSum : List Nat → Int
 | [] => 0
 | n :: t => 4 + (n : Int) + segSum t
theorem segSum_take : ∀ (ls : List Nat) (i n : Nat), ls[i]? = some n → segSum (ls.take (i + 1)) = segSum (ls.take i) + (4 + (n : Int))
 | [], _, _, h => by simp at h
 | m :: t, 0, n, h => by simp at h; subst h; simp [segSum]
 | m :: t, i + 1, n, h => by
  have := segSum_take t i n (by simpa using h); simp only [List.take_succ_cons, segSum] at this ⊢; rw [this]; omega
theorem segSum_nonneg : ∀ ls, 0 ≤ segSum ls
 | [] => by simp [segSum]
 | n :: t => by have := segSum_nonneg t; simp only [segSum]; omega
theorem segSum_len : ∀ ls : List Nat, (ls.length : Int) ≤ segSum ls
 | [] => by simp [segSum]
 | n :: t => by have := segSum_len t; simp only [segSum, List.length_cons]; omega
theorem segSum_le : ∀ (ls : List Nat) (i : Nat), segSum (ls.take i) ≤ segSum ls
 | [], i => by simp
 | n :: t, 0 => by have := segSum_nonneg (n :: t); simpa [segSum] using this
 | n :: t, i + 1 => by have := segSum_le t i; simp only [List.take_succ_cons, segSum]; omega
def RowS (b : Nat) (w : World) (v : Value) (ls : List Nat) : Prop := (v = .slice none 0 0 ∧ ls = []) ∨ ∃ g cap c, v = .slice (some ⟨g, 0, none⟩) ls.length cap ∧ b ≤ g ∧ w.heap[g]? = some (Obj.cells c 100 (0, 0)) ∧ ls.length * 5 ≤ c.size ∧ ∀ i n, ls[i]? = some n → ∃ u, c[i * 5 + 4]? = some u ∧ RowB b w u n
theorem RowS.step {b : Nat} {ls : List Nat} {w W : World} {v : Value} (h : RowS b w v ls) (hs : SegStep b w W) : RowS b W v ls := by
 rcases h with h | ⟨g, cap, c, rfl, hb, hg, hn, hc⟩
 ·exact .inl h
 ·obtain ⟨c', e, s, t⟩ := hs.segs g c hg; refine .inr ⟨g, cap, c', rfl, hb, e, s ▸ hn, fun i n hi => ?_⟩; obtain ⟨u, h1, h2⟩ := hc i n hi; exact ⟨u, (t _ (by omega)).trans h1, h2.step hs⟩
theorem segs_at {b g i : Nat} {w W : World} {c : Array Value} {u : Value} (h : SegStep b w W) (hg : w.heap[g]? = some (Obj.cells c 100 (0, 0))) (hz : i * 5 + 5 ≤ c.size) (hu : c[i * 5 + 4]? = some u) : ∃ c' : Array Value, W.heap[g]? = some (Obj.cells c' 100 (0, 0)) ∧ (∃ u0, W.cell? ⟨g, i * 5, none⟩ = some u0) ∧ (∃ u1, W.cell? ⟨g, i * 5 + 1, none⟩ = some u1) ∧ (∃ u2, W.cell? ⟨g, i * 5 + 2, none⟩ = some u2) ∧ (∃ u3, W.cell? ⟨g, i * 5 + 3, none⟩ = some u3) ∧ W.cell? ⟨g, i * 5 + 4, none⟩ = some u ∧ ∀ j, W.frozen? ⟨g, j, none⟩ = false := by
 obtain ⟨c', e, s, t⟩ := h.segs g c hg; have at_ : ∀ j, j < c.size → ∃ u0, W.cell? ⟨g, j, none⟩ = some u0 := fun j hj => ⟨c'[j]'(by omega), by rw [blk_cell e]; simp⟩
 exact ⟨c', e, at_ _ (by omega), at_ _ (by omega), at_ _ (by omega), at_ _ (by omega), by rw [blk_cell e]; exact (t _ (by omega)).trans hu, fun j => blk_frozen e j⟩
set_option maxHeartbeats 8000000 in
set_option maxRecDepth 100000 in
theorem laws_markSegmentS.seg (b : Nat) (ls : List Nat) (v : Value) (a1 : Int) (w : World) (hb : b ≤ w.heap.size) (hr : RowS b w v ls) (h0 : 0 ≤ a1) (h1 : a1 + segSum ls ≤ 4611686018427387904) :
  Calls Try.prog 60 #[v, .int .i64 a1] w fun e w' => e = .returned (.int .i64 (a1 + segSum ls)) ∧ SegStep b w w' := by
 have HR := Aside0.mk hr; clear hr; have HS := Aside0.mk (SegStep.refl b w); obtain ⟨A, cap, rfl⟩ : ∃ A cap, v = .slice A ls.length cap := by
  rcases HR.out with ⟨rfl, rfl⟩ | ⟨g, cap, c, rfl, _⟩ <;> exact ⟨_, _, rfl⟩
 go_enter Try.func60, Try.ntmps60
 go_wp2
 go_loopg [1, 5] (ls.length + 1) (fun kq v1 v5 w' => ∃ (i : Nat) (x : Int), v1 = .int .i64 x ∧ v5 = .int .i64 (i : Int) ∧ Aside0 (i ≤ ls.length ∧ kq + i = ls.length + 1) ∧ Aside0 (x = a1 + segSum (ls.take i)) ∧ Aside0 (SegStep b w w'))
 case atStart => exact ⟨0, a1, rfl, rfl, ⟨by omega, by omega⟩, ⟨by simp [segSum]⟩, HS⟩
 case round =>
  obtain ⟨i, x, rfl, rfl, HI, HX, HS'⟩ := hrel; have hi := HI.out; cases gk with
  | zero => omega
  | succ k1 =>
   by_cases c3 : i < ls.length
   ·have c3b0 : decide ((i : Int) < (ls.length : Int)) = true := decide_eq_true (by omega); obtain ⟨n, hn⟩ : ∃ n, ls[i]? = some n := ⟨ls[i], by simp⟩
    have HX2 := Aside0.mk (segSum_take ls i n hn); have hlen := segSum_len ls; have hx0 : 0 ≤ x := by have := HX.out; have := segSum_nonneg (ls.take i); omega
    have hx1 : x + 4 + (n : Int) ≤ 4611686018427387904 := by have := HX.out; have := HX2.out; have := segSum_le ls (i + 1); omega
    obtain ⟨g, cap', c, e, hbg, hg, hz, hc⟩ : ∃ g cap' c, Value.slice A ls.length cap = .slice (some ⟨g, 0, none⟩) ls.length cap' ∧ b ≤ g ∧ w.heap[g]? = some (Obj.cells c 100 (0, 0)) ∧ ls.length * 5 ≤ c.size ∧ ∀ i n, ls[i]? = some n → ∃ u, c[i * 5 + 4]? = some u ∧ RowB b w u n := by
     rcases HR.out with ⟨_, e⟩ | h
     ·rw [e] at c3; simp at c3
     ·exact h
    obtain ⟨u, hu, HB⟩ := hc i n hn; have HB := Aside0.mk HB; clear hc; injection e with eA en ec
    subst eA ec; obtain ⟨c0, hg0, ⟨u0, hx00⟩, ⟨u1, hx01⟩, ⟨u2, hx02⟩, ⟨u3, hx03⟩, hx04, hf0⟩ := segs_at HS'.out hg (by omega : i * 5 + 5 ≤ c.size) hu; have hf00 := hf0 (i * 5); have hf01 := hf0 (i * 5 + 1); have hf02 := hf0 (i * 5 + 2); have hf03 := hf0 (i * 5 + 3); have hs1 := SegStep.setS HS'.out hg0 hbg (i * 5) (by omega) (.int .i64 x); have hg1 := blk_set hg0 (i * 5) (.int .i64 x); have hs2 := Aside0.mk (SegStep.setS hs1 hg1 hbg (i * 5 + 1) (by omega) (.int .i64 (x + 1))); clear hs1 hg1 HS'; go_wp2_with (first
     | (go_at_call 86; ((with_reducible refine (markText_any (x + 1 + 1) (by omega) (by omega) _).mono ?_); rintro e w8 ⟨⟨r8, rfl⟩, hb8⟩; have hs3 := Aside0.mk (SegStep.below_ hs2.out hb hb8); clear hs2 hb8 hx00 hx01 hx02 hx03 hx04 hf00 hf01 hf02 hf03 hf0 hg0; obtain ⟨c8, hg8, _, _, ⟨u82, hx82⟩, ⟨u83, hx83⟩, hx84, hf8⟩ := segs_at hs3.out hg (by omega : i * 5 + 5 ≤ c.size) hu; have hf82 := hf8 (i * 5 + 2); have hf83 := hf8 (i * 5 + 3); have hs4 := SegStep.setS hs3.out hg8 hbg (i * 5 + 2) (by omega) (.string r8); have hg4 := blk_set hg8 (i * 5 + 2) (.string r8); have hs5 := fun y => Aside0.mk (SegStep.setS hs4 hg4 hbg (i * 5 + 3) (by omega) (.bool y)); clear hs4 hg4))
     | (go_at_call 59; ((with_reducible refine (laws_markBoolS.seg b n u (x + 1 + 1 + 1 + 1) _ (Nat.le_trans hb (hs5 _).out.below.size) (HB.out.step (hs5 _).out) (by omega) (by omega)).mono ?_); rintro e w9 ⟨rfl, hs9⟩; have hs6 := Aside0.mk ((hs5 _).out.trans hs9); clear hs9 hs5)))
    go_roundg k1
    case measure => omega
    case rel => exact ⟨i + 1, _, rfl, by simp, ⟨by omega, by omega⟩, ⟨by have := HX.out; have := HX2.out; omega⟩, hs6⟩
   ·have c3b0 : decide ((i : Int) < (ls.length : Int)) = false := decide_eq_false (by omega); have e : i = ls.length := by omega
    subst e; have ex := HX.out; rw [List.take_length] at ex; subst ex; go_wp2; go_ret; exact ⟨rfl, HS'.out⟩
def gots (l : List (S100)) : List Nat := l.map (fun x => x.f4.length)
theorem RowS.of_own {b : Nat} {w : World} {ok : Nat → Prop} {v : Value} {l : List (S100)} (h : k100.R 100 w b ok v l) : RowS b w v (gots l) := by
 obtain ⟨_, inner, ⟨h1, ho⟩, hr⟩ := h; have hsz : k100.sz = 5 := rfl; rw [hsz] at ho h1 hr; rcases ho with ⟨rfl, h0⟩ | ⟨g, cap, cur, rfl, hb, hg, h2, h3, h4, h5⟩
 ·rw [List.eq_nil_of_length_eq_zero h0]; exact .inl ⟨rfl, rfl⟩
 ·have hl : (gots l).length = l.length := by simp [gots]
  refine .inr ⟨g, cap, cur, by rw [hl], hb, hg, by rw [hl, h4]; omega, fun i n hi => ?_⟩; simp only [gots, List.getElem?_map, Option.map_eq_some_iff] at hi; obtain ⟨x, hx, rfl⟩ := hi; obtain ⟨v4, e, h6⟩ := k100_openM (hr.2 i x hx); have hin : i < l.length := (List.getElem?_eq_some_iff.1 hx).1; refine ⟨v4, ?_, RowB.of_own h6.2.choose_spec.1⟩; have e2 : ((inner.drop (i * 5)).take 5)[4]? = some v4 := by rw [e]; rfl
  rw [List.getElem?_take_of_lt (by omega), List.getElem?_drop, ← h5, List.getElem?_take_of_lt (by omega)] at e2; rw [← e2]
  simp
theorem RowB.of_R {b : Nat} {w : World} {ok : Nat → Prop} {v : Value} {l : List Bool} (h : Kd.bool.R 4 w b ok v l) : RowB b w v l.length := RowB.of_own h.2.choose_spec.1
def laws_markSession.f (a0_0 : ByteArray) (l0_1 : List Bool) (l0_2 : List Bool) (a0_3 : ByteArray) (a0_4 : Bool) (l0_5 : List (S100)) (l0_6 : List (S100)) (a1 : Int) : Option (Int) := if 0 ≤ a1 ∧ a1 + (l0_1.length : Int) + (l0_2.length : Int) + segSum (gots l0_5) + segSum (gots l0_6) ≤ 4611686018427387904 then some (a1 + (l0_1.length : Int) + (l0_2.length : Int) + segSum (gots l0_5) + segSum (gots l0_6)) else none
theorem RowB.slice {b n : Nat} {w : World} {v : Value} (h : RowB b w v n) : ∃ A cap, v = .slice A n cap := by
 rcases h with ⟨rfl, rfl⟩ | ⟨g, cap, c, rfl, _⟩ <;> exact ⟨_, _, rfl⟩
theorem RowS.slice {b : Nat} {ls : List Nat} {w : World} {v : Value} (h : RowS b w v ls) : ∃ A cap, v = .slice A ls.length cap := by
 rcases h with ⟨rfl, rfl⟩ | ⟨g, cap, c, rfl, _⟩ <;> exact ⟨_, _, rfl⟩
set_option maxHeartbeats 8000000 in
set_option maxRecDepth 100000 in
theorem laws_markSession.seg (b : Nat) (a0 a3 : ByteArray) (a4 : Bool) (v1 v2 v5 v6 : Value) (n1 n2 : Nat) (l5 l6 : List Nat) (a1 : Int) (w : World) (hb : b ≤ w.heap.size) (r1 : RowB b w v1 n1) (r2 : RowB b w v2 n2) (r5 : RowS b w v5 l5) (r6 : RowS b w v6 l6) (h0 : 0 ≤ a1) (h1 : a1 + (n1 : Int) + (n2 : Int) + segSum l5 + segSum l6 ≤ 4611686018427387904) :
  Calls Try.prog 29 #[.agg #[.string a0, v1, v2, .string a3, .bool a4, v5, v6], .int .i64 a1] w fun e w' => e = .returned (.int .i64 (a1 + (n1 : Int) + (n2 : Int) + segSum l5 + segSum l6)) ∧ SegStep b w w' := by
 have hu48 := Try.underlying48; have R1 := Aside0.mk r1; have R2 := Aside0.mk r2; have R5 := Aside0.mk r5; have R6 := Aside0.mk r6; have p5 := segSum_nonneg l5; have p6 := segSum_nonneg l6; obtain ⟨A1, c1, rfl⟩ := r1.slice; obtain ⟨A2, c2, rfl⟩ := r2.slice; obtain ⟨A5, c5, rfl⟩ := r5.slice; obtain ⟨A6, c6, rfl⟩ := r6.slice; clear r1 r2 r5 r6
 go_enter Try.func29, Try.ntmps29
 go_wp2_with (first
  | ((with_reducible refine gate_dst (N := 2) rfl ?_); refine box_event ?hg (N := 2) ?hd (cs := #[.string a0, .slice A1 n1 c1, .slice A2 n2 c2, .string a3, .bool a4, .slice A5 l5.length c5, .slice A6 l6.length c6]) (t := 48) ?hr ?_; (case hd => rfl); (case hg => rfl); (case hr => first | (go_simp; done) | (go_simp; rfl)); intro gb hg w9 hbox hbl; have BK := Aside0.mk hbox; have HS := Aside0.mk (SegStep.of_below hbl hb); have hz1 : w9.cell? ⟨gb, 1, none⟩ = some (.slice A1 n1 c1) := (blk_cell hbox 1).trans rfl; clear hg hbox hbl)
  | (go_at_call 59; refine (laws_markBoolS.seg b n1 _ a1 w9 (Nat.le_trans hb HS.out.below.size) (R1.out.step HS.out) h0 (by omega)).mono ?_; rintro e wa ⟨rfl, hs⟩; have BKa := Aside0.mk (hs.other gb _ BK.out (fun c e => by injection e with _ e; exact absurd e (by decide)) (fun c e => by injection e with _ e; exact absurd e (by decide))); have HSa := Aside0.mk (HS.out.trans hs); clear hs BK HS hz1; have hz2 : wa.cell? ⟨gb, 2, none⟩ = some (.slice A2 n2 c2) := (blk_cell BKa.out 2).trans rfl)
  | (go_at_call 59; refine (laws_markBoolS.seg b n2 _ (a1 + n1) wa (Nat.le_trans hb HSa.out.below.size) (R2.out.step HSa.out) (by omega) (by omega)).mono ?_; rintro e wb ⟨rfl, hs⟩; have BKb := Aside0.mk (hs.other gb _ BKa.out (fun c e => by injection e with _ e; exact absurd e (by decide)) (fun c e => by injection e with _ e; exact absurd e (by decide))); have HSb := Aside0.mk (HSa.out.trans hs); clear hs BKa HSa hz2; have hz5 : wb.cell? ⟨gb, 5, none⟩ = some (.slice A5 l5.length c5) := (blk_cell BKb.out 5).trans rfl)
  | (go_at_call 60; refine (laws_markSegmentS.seg b l5 _ (a1 + n1 + n2) wb (Nat.le_trans hb HSb.out.below.size) (R5.out.step HSb.out) (by omega) (by omega)).mono ?_; rintro e wc ⟨rfl, hs⟩; have BKc := Aside0.mk (hs.other gb _ BKb.out (fun c e => by injection e with _ e; exact absurd e (by decide)) (fun c e => by injection e with _ e; exact absurd e (by decide))); have HSc := Aside0.mk (HSb.out.trans hs); clear hs BKb HSb hz5; have hz6 : wc.cell? ⟨gb, 6, none⟩ = some (.slice A6 l6.length c6) := (blk_cell BKc.out 6).trans rfl)
  | (go_at_call 60; refine (laws_markSegmentS.seg b l6 _ (a1 + n1 + n2 + segSum l5) wc (Nat.le_trans hb HSc.out.below.size) (R6.out.step HSc.out) (by omega) (by omega)).mono ?_; rintro e wd ⟨rfl, hs⟩; have HSd := Aside0.mk (HSc.out.trans hs); clear hs HSc hz6))
 go_ret; exact ⟨rfl, HSd.out⟩
theorem SegStep.blk {b g t : Nat} {w W : World} {c : Array Value} (h : SegStep b w W) (hg : w.heap[g]? = some (Obj.cells c t (0, 0))) (h4 : t ≠ 4) (h5 : t ≠ 100) : W.heap[g]? = some (Obj.cells c t (0, 0)) :=
 h.other g _ hg (fun c' e => by injection e with _ e; exact h4 e) (fun c' e => by injection e with _ e; exact h5 e)
theorem SegStep.keepR {α : Type} {d : Kd α} {b e base : Nat} {w W : World} {ok : Nat → Prop} {v : Value} {xs : List α} (hs : SegStep b w W) (h : d.R e w base ok v xs) (hE : d.E = []) (h4 : e ≠ 4) (h5 : e ≠ 100) : d.R e W base ok v xs :=
 Kd.R_mono (Kd.R_move (Kd.R_bound h) (fun k hk => by
  obtain ⟨_, _, _, q, hq, c, hc⟩ := hk; rw [hE] at hq; obtain rfl : q = e := by simpa using hq
  rw [hs.blk hc h4 h5, hc])) (fun _ hk => hk.1)
theorem laws_markSession.run (b : Nat) (a0 a3 : ByteArray) (a4 : Bool) (v1 v2 v5 v6 : Value) (l1 l2 : List Bool) (l5 l6 : List (S100)) (a1 r : Int) (w : World) (o1 o2 o5 o6 : Nat → Prop) (hf : laws_markSession.f a0 l1 l2 a3 a4 l5 l6 a1 = some r) (hb : b ≤ w.heap.size) (h1 : Kd.bool.R 4 w b o1 v1 l1) (h2 : Kd.bool.R 4 w b o2 v2 l2) (h5 : k100.R 100 w b o5 v5 l5) (h6 : k100.R 100 w b o6 v6 l6) :
  Calls Try.prog 29 #[.agg #[.string a0, v1, v2, .string a3, .bool a4, v5, v6], .int .i64 a1] w fun e w' => e = .returned (.int .i64 r) ∧ SegStep b w w' := by
 unfold laws_markSession.f at hf; by_cases hc : 0 ≤ a1 ∧ a1 + (l1.length : Int) + (l2.length : Int) + segSum (gots l5) + segSum (gots l6) ≤ 4611686018427387904
 case neg => rw [if_neg hc] at hf; exact absurd hf (by simp)
 rw [if_pos hc] at hf; obtain rfl := Option.some.inj hf; exact laws_markSession.seg b a0 a3 a4 v1 v2 v5 v6 l1.length l2.length (gots l5) (gots l6) a1 w hb (RowB.of_R h1) (RowB.of_R h2) (RowS.of_own h5) (RowS.of_own h6) hc.1 hc.2
def laws_markIntS.l0 : Nat → List Int → Int → Int → Option (Int × List Int)
 | 0, _, _, _ => none
 | k + 1, x0, x1, x5 => if x5 < (x0.length : Int) then (if 0 ≤ x5 then (laws_markIntS.l0 k (x0.set (x5 : Int).toNat x1) (wrap64 (x1 + 1)) (wrap64 (x5 + 1))) else (none)) else (some (x1, x0))
def laws_markIntS.f (k : Nat) (l0 : List Int) (a1 : Int) : Option (Int × List Int) := laws_markIntS.l0 k l0 a1 0
theorem laws_markIntS.mono_l : ∀ k, (∀ y0 y1 y2, LeO (laws_markIntS.l0 k y0 y1 y2) (laws_markIntS.l0 (k + 1) y0 y1 y2))
 | 0 => fun _ _ _ r h => by simp [laws_markIntS.l0] at h
 | k + 1 => by
  have ih0 := laws_markIntS.mono_l k
  ·intro y0 y1 y2; unfold laws_markIntS.l0
   repeat' first
   | (with_reducible exact ih0 _ _ _)
   | (with_reducible exact LeO.refl _)
   | (with_reducible exact LeO.none _)
   | (with_reducible refine LeO.ite ?_ ?_)
   | (with_reducible refine LeO.bind ?_ (fun _ => ?_))
   | exact ih0 _ _ _
   | exact LeO.none _
   | refine LeO.ite ?_ ?_
   | refine LeO.bind ?_ (fun _ => ?_)
theorem laws_markIntS.mono : ∀ a0 a1 k, LeO (laws_markIntS.f k a0 a1) (laws_markIntS.f (k + 1) a0 a1) := by
 intro a0 a1 k; have ih0 := laws_markIntS.mono_l k; unfold laws_markIntS.f
 repeat' first
   | (with_reducible exact ih0 _ _ _)
   | (with_reducible exact LeO.refl _)
   | (with_reducible exact LeO.none _)
   | (with_reducible refine LeO.ite ?_ ?_)
   | (with_reducible refine LeO.bind ?_ (fun _ => ?_))
   | exact ih0 _ _ _
   | exact LeO.none _
   | refine LeO.ite ?_ ?_
   | refine LeO.bind ?_ (fun _ => ?_)
set_option maxHeartbeats 8000000 in
set_option maxRecDepth 100000 in
theorem laws_markIntS.calls (k : Nat) (P0_ : Nat → Prop) (u9000_ : Value) (l0 : List Int) (a1 : Int) (r1 : Int) (r2 : List Int) (w0 w : World) (hB : Below w0.heap.size w0 w) (ho0 : Kd.R (Kd.int .i64) 3 w w0.heap.size P0_ u9000_ l0) (h : laws_markIntS.f k l0 a1 = some (r1, r2)) :
  Calls Try.prog 30 #[u9000_, .int .i64 a1] w fun e w' => e = .returned (.int .i64 r1) ∧ Kd.R (Kd.int .i64) 3 w' w0.heap.size (fun k_ => (P0_ k_ ∨ w.heap.size ≤ k_)) u9000_ r2 ∧ Below w0.heap.size w0 w' ∧ Kept w w' (fun k_ => P0_ k_) := by
 have HO0 := Aside0.mk (show Kd.R (Kd.int .i64) 3 w w0.heap.size (fun k_ => (P0_ k_ ∨ w.heap.size ≤ k_)) u9000_ l0 from Kd.R_mono ho0 (fun k_ hk => (.inl hk))); have HK := Aside0.mk (Kept.refl w (fun k_ => P0_ k_)); have HW0 := Aside0.mk hB.size; have HB := Aside0.mk hB; clear hB; have H : (laws_markIntS.l0 k l0 a1 0) = some (r1, r2) := h; clear h; have H' := Aside0.mk H; clear H
 go_enter Try.func30, Try.ntmps30
 go_wp2
 go_loopg [1, 5] k (fun kq v1 v5 w' => ∃ (x0_1 : List Int) (x1_1 : Int) (x5_1 : Int), v1 = .int .i64 x1_1 ∧ v5 = .int .i64 x5_1 ∧ Aside0 (laws_markIntS.l0 kq x0_1 x1_1 x5_1 = some (r1, r2)) ∧ Aside0 (kq ≤ k) ∧ Aside0 (Kd.R (Kd.int .i64) 3 w' w0.heap.size (fun k_ => (P0_ k_ ∨ w.heap.size ≤ k_)) u9000_ x0_1) ∧ Aside0 (Kept w w' (fun k_ => P0_ k_)) ∧ Aside0 (Below w0.heap.size w0 w'))
 case atStart => exact ⟨(l0), (a1), (0), (by first | rfl | (simp; done) | (simp [*]; done)), (by first | rfl | (simp; done) | (simp [*]; done)), H', ⟨Nat.le_refl _⟩, ⟨rq_⟩, ⟨by repeat (first | (with_reducible first | exact HK.out | apply Kept.alloc | apply Kept.drewN | apply Kept.drew) | exact HK.out)⟩, ⟨by repeat (first | (with_reducible first | exact HB.out | apply below_alloc | apply pw_below_drewN | apply below_drew1) | exact HB.out | (with_reducible exact Below.refl _ _))⟩⟩
 case round =>
  clear H'; try clear p2
  obtain ⟨x0_1, x1_1, x5_1, rfl, rfl, HA, HK1, HO_0, HK, HB⟩ := hrel; cases gk with
  | zero => exact absurd HA.out (by simp [laws_markIntS.l0])
  | succ k1 =>
   have H := HA.out; clear HA; simp only [laws_markIntS.l0] at H; by_cases c3 : x5_1 < (x0_1.length : Int)
   ·rw [if_pos c3] at H; have c3b0 : decide (x5_1 < (x0_1.length : Int)) = true := decide_eq_true c3; clear c3; by_cases c4 : 0 ≤ x5_1
    ·rw [if_pos c4] at H; have c4b0 : decide (0 ≤ x5_1) = true := decide_eq_true c4; clear c4; obtain ⟨y239, hy239⟩ : ∃ y_ : List Int, y_ = (x0_1.set (x5_1 : Int).toNat x1_1) := ⟨_, rfl⟩
     rw [← hy239] at H
     (try rw [Option.bind_some] at H)
     have Ny239 := Aside0.mk hy239; clear hy239; have H' := Aside0.mk H; clear H; obtain ⟨Ao6, co6, eo6⟩ := Kd.R_slice HO_0.out; subst eo6; have p5 : 0 ≤ (x5_1 : Int) := of_decide_eq_true (by first | (with_reducible assumption) | assumption); have q5 : (x5_1 : Int) < ((x0_1.length : Int) : Int) := of_decide_eq_true (by first | (with_reducible assumption) | assumption); obtain ⟨go5, co5, eo5, gb5, gl5, cl5, HG5⟩ := Kd.R_form HO_0.out (by omega); (first | cases eo5 | (injection eo5 with ea_ en_ ec_; (first | subst ea_ | (injection ea_ with ea_; subst ea_)); subst ec_; clear en_)); have GB5 := Aside0.mk gb5; have GG5 := Aside0.mk HG5; clear gb5 gl5 HG5; have HMgo5 := Aside0.mk (show (P0_ go5 ∨ w.heap.size ≤ go5) from (HO_0.out.1 _ rfl)); obtain ⟨hx5_0, hf5_0⟩ := Kd.R_celln 0 (HO_0.out) (x5_1 : Int) p5 q5; replace p5 := eq_true p5; replace q5 := eq_true q5; have HP7 := Kd.R_putg HO_0.out (x5_1 : Int) x1_1; go_wp2_with (first | ((with_reducible refine gate_store (t := 3) (p := 15) rfl ?_); refine store_event (t := 3) (p := 15) (v := ?vo_w8) (w1 := (wr.setCell ⟨go5, (x5_1 : Int).toNat, none⟩ (.int .i64 x1_1))) ?hg ?ho ?hn ?hr ?_; (case ho => rfl); (case hg => rfl); (case hn => rfl); (case hr => first | (go_simp; done) | (go_simp; rfl)); intro w8 hw; have hg : wr.grownBy w8 (some go5) := (by rw [hw]; exact HP7.2); have hp_ : Kd.R (Kd.int .i64) 3 w8 w0.heap.size (fun k_ => (P0_ k_ ∨ w.heap.size ≤ k_)) (.slice (some ⟨go5, 0, none⟩) x0_1.length co6) y239 := (by rw [hw, Ny239.out]; exact HP7.1); clear HP7; replace HB := Aside0.mk ((by rw [hw]; exact below_set (HB.out) GB5.out : Below w0.heap.size w0 w8)); replace HK := Aside0.mk (Kept.of_grown (S := (fun k_ => P0_ k_)) hg (by repeat (first | (with_reducible first | exact HK.out | apply Kept.alloc | apply Kept.drewN | apply Kept.drew) | exact HK.out)) (fun k_ e_ => (HO_0.out.1 k_ e_))); replace HO_0 := Aside0.mk (hp_); clear hg hw hp_)); go_roundg k1
     case measure => have := HK1.out; omega
     case rel => exact ⟨(y239), (wrap64 (x1_1 + 1)), (wrap64 (x5_1 + 1)), (by first | rfl | (simp; done) | (simp [*]; done)), (by first | rfl | (simp; done) | (simp [*]; done)), H', ⟨by have := HK1.out; omega⟩, ⟨rq_⟩, ⟨by repeat (first | (with_reducible first | exact HK.out | apply Kept.alloc | apply Kept.drewN | apply Kept.drew) | exact HK.out)⟩, ⟨by repeat (first | (with_reducible first | exact HB.out | apply below_alloc | apply pw_below_drewN | apply below_drew1) | exact HB.out | (with_reducible exact Below.refl _ _))⟩⟩
    ·rw [if_neg c4] at H; exact absurd H (by simp)
   ·rw [if_neg c3] at H; have c3b0 : decide (x5_1 < (x0_1.length : Int)) = false := decide_eq_false c3; clear c3; simp only [Option.some.injEq, Prod.mk.injEq] at H; obtain ⟨rfl, rfl⟩ := H; obtain ⟨Ao9, co9, eo9⟩ := Kd.R_slice HO_0.out; subst eo9; go_wp2; go_ret; exact ⟨by first | rfl | (simp [errW_none, errW_some] <;> rfl) | (simp [*, errW_none, errW_some] <;> rfl), by (with_reducible repeat (first | apply Kd.R_alloc | apply Kd.R_drewN | apply Kd.R_drew)); exact HO_0.out, by repeat (first | (with_reducible first | exact HB.out | apply below_alloc | apply pw_below_drewN | apply below_drew1) | exact HB.out | (with_reducible exact Below.refl _ _)), by repeat (first | (with_reducible first | exact HK.out | apply Kept.alloc | apply Kept.drewN | apply Kept.drew) | exact HK.out)⟩
def laws_heldIntS.l0 : Nat → List Int → Int → Int → Option (Int)
 | 0, _, _, _ => none
 | k + 1, x0, x1, x5 => if x5 < (x0.length : Int) then (if 0 ≤ x5 then (if (rd x0 x5) = x1 then (laws_heldIntS.l0 k x0 (wrap64 (x1 + 1)) (wrap64 (x5 + 1))) else (some (-1))) else (none)) else (some x1)
def laws_heldIntS.f (k : Nat) (l0 : List Int) (a1 : Int) : Option (Int) := laws_heldIntS.l0 k l0 a1 0
theorem laws_heldIntS.mono_l : ∀ k, (∀ y0 y1 y2, LeO (laws_heldIntS.l0 k y0 y1 y2) (laws_heldIntS.l0 (k + 1) y0 y1 y2))
 | 0 => fun _ _ _ r h => by simp [laws_heldIntS.l0] at h
 | k + 1 => by
  have ih0 := laws_heldIntS.mono_l k
  ·intro y0 y1 y2; unfold laws_heldIntS.l0
   repeat' first
   | (with_reducible exact ih0 _ _ _)
   | (with_reducible exact LeO.refl _)
   | (with_reducible exact LeO.none _)
   | (with_reducible refine LeO.ite ?_ ?_)
   | (with_reducible refine LeO.bind ?_ (fun _ => ?_))
   | exact ih0 _ _ _
   | exact LeO.none _
   | refine LeO.ite ?_ ?_
   | refine LeO.bind ?_ (fun _ => ?_)
theorem laws_heldIntS.mono : ∀ a0 a1 k, LeO (laws_heldIntS.f k a0 a1) (laws_heldIntS.f (k + 1) a0 a1) := by
 intro a0 a1 k; have ih0 := laws_heldIntS.mono_l k; unfold laws_heldIntS.f
 repeat' first
   | (with_reducible exact ih0 _ _ _)
   | (with_reducible exact LeO.refl _)
   | (with_reducible exact LeO.none _)
   | (with_reducible refine LeO.ite ?_ ?_)
   | (with_reducible refine LeO.bind ?_ (fun _ => ?_))
   | exact ih0 _ _ _
   | exact LeO.none _
   | refine LeO.ite ?_ ?_
   | refine LeO.bind ?_ (fun _ => ?_)
set_option maxHeartbeats 8000000 in
set_option maxRecDepth 100000 in
theorem laws_heldIntS.calls (k : Nat) (A0 : Option Addr) (c0 : Nat) (l0 : List Int) (a1 : Int) (r : Int) (w : World) (hr0 : Kd.C (Kd.int .i64) w A0 l0.length l0) (hc0 : l0.length ≤ c0) (h : laws_heldIntS.f k l0 a1 = some r) :
  Calls Try.prog 31 #[.slice A0 l0.length c0, .int .i64 a1] w fun e w' => e = .returned (.int .i64 r) ∧ Drawn0 w w' := by
 have HR0 := Aside0.mk hr0; have HC0 := Aside0.mk hc0; clear hr0 hc0; have H : (laws_heldIntS.l0 k l0 a1 0) = some r := h; clear h; have H' := Aside0.mk H; clear H
 go_enter Try.func31, Try.ntmps31
 go_wp2
 go_loopg [1, 5] k (fun kq v1 v5 w' => ∃ (x1_1 : Int) (x5_1 : Int), v1 = .int .i64 x1_1 ∧ v5 = .int .i64 x5_1 ∧ Aside0 (laws_heldIntS.l0 kq l0 x1_1 x5_1 = some r) ∧ Aside0 (kq ≤ k) ∧ Drawn0 w w')
 case atStart => exact ⟨(a1), (0), (by first | rfl | (simp; done) | (simp [*]; done)), (by first | rfl | (simp; done) | (simp [*]; done)), H', ⟨Nat.le_refl _⟩, by repeat (first | exact Drawn0.refl _ | apply Drawn0.step)⟩
 case round =>
  clear H'; try clear p2
  obtain ⟨x1_1, x5_1, rfl, rfl, HA, HK1, ⟨m1, rfl⟩⟩ := hrel; cases gk with
  | zero => exact absurd HA.out (by simp [laws_heldIntS.l0])
  | succ k1 =>
   have H := HA.out; clear HA; simp only [laws_heldIntS.l0] at H; by_cases c3 : x5_1 < (l0.length : Int)
   ·rw [if_pos c3] at H; have c3b0 : decide (x5_1 < (l0.length : Int)) = true := decide_eq_true c3; clear c3; by_cases c4 : 0 ≤ x5_1
    ·rw [if_pos c4] at H; have c4b0 : decide (0 ≤ x5_1) = true := decide_eq_true c4; clear c4; by_cases c5 : (rd l0 x5_1) = x1_1
     ·rw [if_pos c5] at H; have c5b0 : ((rd l0 x5_1) == x1_1) = true := beq_iff_eq.mpr c5; have c5b1 : ((rd l0 x5_1) != x1_1) = false := bne_eq_false_iff_eq.mpr c5; clear c5; have H' := Aside0.mk H; clear H; have p240 : 0 ≤ (x5_1 : Int) := of_decide_eq_true (by first | (with_reducible assumption) | assumption); have q240 : x5_1 < (l0.length : Int) := of_decide_eq_true (by first | (with_reducible assumption) | assumption); obtain ⟨ad240, e240, hx240_0⟩ := Kd.at_int HR0.out x5_1 p240 q240; cases e240; replace p240 := eq_true p240; replace q240 := eq_true q240; go_wp2; go_roundg k1
      case measure => have := HK1.out; omega
      case rel => exact ⟨(wrap64 (x1_1 + 1)), (wrap64 (x5_1 + 1)), (by first | rfl | (simp; done) | (simp [*]; done)), (by first | rfl | (simp; done) | (simp [*]; done)), H', ⟨by have := HK1.out; omega⟩, by repeat (first | exact Drawn0.refl _ | apply Drawn0.step)⟩
     ·rw [if_neg c5] at H; have c5b0 : ((rd l0 x5_1) == x1_1) = false := beq_eq_false_iff_ne.mpr c5; have c5b1 : ((rd l0 x5_1) != x1_1) = true := bne_iff_ne.mpr c5; obtain rfl := Option.some.inj H; have p240 : 0 ≤ (x5_1 : Int) := of_decide_eq_true (by first | (with_reducible assumption) | assumption); have q240 : x5_1 < (l0.length : Int) := of_decide_eq_true (by first | (with_reducible assumption) | assumption); obtain ⟨ad240, e240, hx240_0⟩ := Kd.at_int HR0.out x5_1 p240 q240; cases e240; replace p240 := eq_true p240; replace q240 := eq_true q240; go_wp2; go_ret; exact ⟨by first | rfl | (simp; done) | (simp [*]; done), by repeat (first | exact Drawn0.refl _ | apply Drawn0.step)⟩
    ·rw [if_neg c4] at H; exact absurd H (by simp)
   ·rw [if_neg c3] at H; have c3b0 : decide (x5_1 < (l0.length : Int)) = false := decide_eq_false c3; clear c3; obtain rfl := Option.some.inj H; go_wp2; go_ret; exact ⟨by first | rfl | (simp; done) | (simp [*]; done), by repeat (first | exact Drawn0.refl _ | apply Drawn0.step)⟩
end Go.Proofs.Ytaffjcaohbkmoaa.QFnExactSegmentsLeft
