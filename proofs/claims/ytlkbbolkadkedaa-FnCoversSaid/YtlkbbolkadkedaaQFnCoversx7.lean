import Derived.Test.YtlkbbolkadkedaaQFnCoversx0
import Derived.Test.YtlkbbolkadkedaaQFnCoversx6
import Derived.Test.YtlkbbolkadkedaaSr
import Derived.Test.YtlkbbolkadkedaaSq
namespace Go.Proofs.Ytlkbbolkadkedaa.QFnCovers
open Go.RowKit Go.Proofs.YtlkbbolkadkedaaW.PrintWords Go.Proofs.YtlkbbolkadkedaaW.PrintLast Go.Proofs.YtlkbbolkadkedaaW.PrintMore
attribute [local go_sem] max2_int min2_int max_two min_two max_three min_three max_four min_four   -- for this text's walks alone
set_option linter.unusedVariables false
set_option linter.unusedSimpArgs false
def impl_Bundle_end.f (a0_0 : Int) (a0_1 : Int) (a0_2 : Bool) (a0_3 : Int) (a0_4 : Int) (a0_5 : Int) (a0_6 : Int) (a0_7 : Int) (a0_8 : Int) (a0_9 : ByteArray) : Option (Int) := some (wrap64 (a0_7 + (a0_9.size : Int)))
set_option maxHeartbeats 8000000 in
set_option maxRecDepth 100000 in
theorem impl_Bundle_end.calls (a0_0 : Int) (a0_1 : Int) (a0_2 : Bool) (a0_3 : Int) (a0_4 : Int) (a0_5 : Int) (a0_6 : Int) (a0_7 : Int) (a0_8 : Int) (a0_9 : ByteArray) (r : Int) (w : World) (h : impl_Bundle_end.f a0_0 a0_1 a0_2 a0_3 a0_4 a0_5 a0_6 a0_7 a0_8 a0_9 = some r) :
  Calls Try.prog 70 #[.agg #[.int .i64 a0_0, .int .i64 a0_1, .bool a0_2, .int .i64 a0_3, .int .i64 a0_4, .int .i64 a0_5, .int .i64 a0_6, .int .i64 a0_7, .int .i64 a0_8, .string a0_9]] w fun e w' => e = .returned (.int .i64 r) ∧ Below w.heap.size w w' := by
 have hu46 := Try.underlying46; have HB := Aside0.mk (Below.refl w.heap.size w); have H : (some (wrap64 (a0_7 + (a0_9.size : Int)))) = some r := h; clear h; obtain rfl := Option.some.inj H
 go_enter Try.func70, Try.ntmps70
 go_wp2_with (first | ((with_reducible refine gate_dst (N := 1) rfl ?_); refine be_ 1 46 #[.int .i64 a0_0, .int .i64 a0_1, .bool a0_2, .int .i64 a0_3, .int .i64 a0_4, .int .i64 a0_5, .int .i64 a0_6, .int .i64 a0_7, .int .i64 a0_8, .string a0_9] ?_; intro gb146 hg w2 hbox hb; have BK146 := Aside0.mk (hbox); have GW146 := ge_ HB hg; have GE146 := ge_ HB hg; replace HB := hb_ HB hb; clear hb hbox hg; obtain ⟨hcz3_0, hcz3_1, hcz3_2, hcz3_3, hcz3_4, hcz3_5, hcz3_6, hcz3_7, hcz3_8, hcz3_9, hfz3_0, hfz3_1, hfz3_2, hfz3_3, hfz3_4, hfz3_5, hfz3_6, hfz3_7, hfz3_8, hfz3_9⟩ := cf10 BK146.out)); go_ret; exact ⟨er_, bq_ HB⟩
-- NOT PRINTED: function 81 (slices_insertionSortOrdered_int)
-- NOT PRINTED: function 93 (slices_siftDownOrdered_int)
-- NOT PRINTED: function 82 (slices_heapSortOrdered_int)
-- NOT PRINTED: function 90 (bits_Len32)
-- NOT PRINTED: function 91 (bits_Len64)
-- NOT PRINTED: function 79 (bits_Len)
-- NOT PRINTED: function 94 (slices_nextPowerOfTwo)
-- NOT PRINTED: function 95 (slices_xorshift_Next)
-- NOT PRINTED: function 83 (slices_breakPatternsOrdered_int)
-- NOT PRINTED: function 99 (slices_order2Ordered_int)
-- NOT PRINTED: function 97 (slices_medianOrdered_int)
-- NOT PRINTED: function 96 (slices_medianAdjacentOrdered_int)
-- NOT PRINTED: function 84 (slices_choosePivotOrdered_int)
-- NOT PRINTED: function 85 (slices_reverseRangeOrdered_int)
-- NOT PRINTED: function 86 (slices_partialInsertionSortOrdered_int)
-- NOT PRINTED: function 88 (slices_partitionEqualOrdered_int)
-- NOT PRINTED: function 89 (slices_partitionOrdered_int)
-- NOT PRINTED: function 78 (slices_pdqsortOrdered_int)
-- NOT PRINTED: function 71 (slices_Sort_int_int)
-- NOT PRINTED: function 72 (slices_Compact_int_int)
theorem intRow_open {W : World} {base : Nat} {v : Value} {xs : List Int} (h : Kd.R (Kd.int .i64) 3 W base (fun _ => True) v xs) :
  (xs = [] ∧ v = .slice none 0 0) ∨ ∃ g cap cur, v = .slice (some ⟨g, 0, none⟩) xs.length cap ∧ base ≤ g ∧ W.heap[g]? = some (.cells cur 3 (0, 0)) ∧ xs.length ≤ cap ∧ cap ≤ maxLen ∧ cur.size = cap ∧ cur.toList.take xs.length = xs.map (Value.int .i64) := by
 obtain ⟨_, inner, ⟨hl, ho⟩, hr⟩ := h; have e : inner = xs.map (Value.int .i64) := by
  obtain ⟨h1, h2⟩ := hr; apply List.ext_getElem?; intro j; by_cases hj : j < xs.length
  ·have := h2 j xs[j] (List.getElem?_eq_getElem hj); have h3 : (inner.drop (j * 1)).take 1 = [.int .i64 xs[j]] := this; have hj' : j < inner.length := by rw [hl]; show j < xs.length * 1; omega
   rw [List.getElem?_eq_getElem hj', List.getElem?_map, List.getElem?_eq_getElem hj]; have h4 : ((inner.drop (j * 1)).take 1)[0]? = some inner[j] := by simp [hj']
   rw [h3] at h4
   simpa using h4.symm
  ·rw [List.getElem?_eq_none (by rw [hl]; show xs.length * 1 ≤ j; omega), List.getElem?_eq_none (by simp; omega)]
 subst e; rcases ho with ⟨h1, h2⟩ | ⟨g, cap, cur, h1, h2, h3, h4, h5, h6, h7⟩
 ·exact .inl ⟨List.length_eq_zero_iff.1 h2, h1⟩
 ·exact .inr ⟨g, cap, cur, h1, h2, h3, h4, h5, by simpa [Kd.int, Kd.scalar] using h6, by simpa [Kd.int, Kd.scalar] using h7⟩
theorem intRow_close {W : World} {base g cap : Nat} {cur : Array Value} {xs : List Int} (h2 : base ≤ g) (h3 : W.heap[g]? = some (.cells cur 3 (0, 0))) (h4 : xs.length ≤ cap) (h5 : cap ≤ maxLen) (h6 : cur.size = cap) (h7 : cur.toList.take xs.length = xs.map (Value.int .i64)) :
  Kd.R (Kd.int .i64) 3 W base (fun _ => True) (.slice (some ⟨g, 0, none⟩) xs.length cap) xs :=
 ⟨fun _ _ => trivial, xs.map (Value.int .i64), ⟨by simp [Kd.int, Kd.scalar], .inr ⟨g, cap, cur, rfl, h2, h3, h4, h5, by simpa [Kd.int, Kd.scalar] using h6, by simpa [Kd.int, Kd.scalar] using h7⟩⟩,
  ⟨by simp [Kd.int, Kd.scalar], fun j p hp => by
   show ((xs.map (Value.int .i64)).drop (j * 1)).take 1 = [.int .i64 p]; have hj : j < xs.length := (List.getElem?_eq_some_iff.1 hp).1; have e : xs[j] = p := (List.getElem?_eq_some_iff.1 hp).2; apply List.ext_getElem?; intro i; cases i with
   | zero => simp [hj, e]
   | succ i => simp; omega⟩⟩
theorem intRow_holds {W : World} {g : Nat} {cur : Array Value} {xs : List Int} (h3 : W.heap[g]? = some (.cells cur 3 (0, 0))) (h7 : cur.toList.take xs.length = xs.map (Value.int .i64)) : Go.Sort.Holds (Value.int .i64) W g 0 xs.toArray := by
 intro j hj; have hj' : j < xs.length := by simpa using hj
 refine ⟨?_, by rw [Nat.zero_add]; exact blk_frozen h3 j⟩; rw [Nat.zero_add, blk_cell h3 j]; have : (cur.toList.take xs.length)[j]? = some (.int .i64 xs[j]) := by rw [h7]; simp [hj']
 rw [List.getElem?_take_of_lt hj', Array.getElem?_toList] at this; rw [this]; simp [hj']
theorem intRow_put {W : World} {g n : Nat} {cur : Array Value} {d : List Int} {os : Array Obj} (h3 : W.heap[g]? = some (.cells cur 3 (0, 0))) :
  (Go.Sort.grow (Go.Sort.putRow (Value.int .i64) (Go.Sort.ahead W n) g 0 d.toArray) os).heap[g]? = some (.cells (Go.Sort.putCells (Value.int .i64) 0 d.toArray cur) 3 (0, 0)) := by
 have hg : g < W.heap.size := blk_lt h3; have h := (Array.getElem?_eq_some_iff.1 h3).2; simp [Go.Sort.grow, Go.Sort.putRow, Go.Sort.mapBlock, Go.Sort.ahead, Array.getElem?_append, Array.getElem_modify, hg, h, Go.Sort.onCells]
theorem putCells_take {cur : Array Value} {d : List Int} (h : d.length ≤ cur.size) : (Go.Sort.putCells (Value.int .i64) 0 d.toArray cur).toList.take d.length = d.map (Value.int .i64) := by
 apply List.ext_getElem?; intro j; by_cases hj : j < d.length
 ·rw [List.getElem?_take_of_lt hj]; simp [Go.Sort.putCells, hj, show j < cur.size by omega]
 ·rw [List.getElem?_eq_none (by simp; omega), List.getElem?_eq_none (by simp; omega)]
theorem intRow_grown {W : World} {g n : Nat} {d : List Int} {os : Array Obj} : W.grownBy (Go.Sort.grow (Go.Sort.putRow (Value.int .i64) (Go.Sort.ahead W n) g 0 d.toArray) os) (some g) := by
 refine ⟨rfl, rfl, rfl, by simp [Go.Sort.grow, Go.Sort.putRow, Go.Sort.mapBlock, Go.Sort.ahead], fun i hi hne => ?_⟩; have hne' : g ≠ i := fun e => hne (by rw [e])
 simp [Go.Sort.grow, Go.Sort.putRow, Go.Sort.mapBlock, Go.Sort.ahead, Array.getElem?_append, Array.getElem_modify, hi, hne']
theorem sort_own {P : Program} {f : FuncId} (hS : ∀ (blk off cap : Nat) (zs : List Int) (w : World), Go.Sort.Holds (Value.int .i64) w blk off zs.toArray → blk < w.heap.size → zs.length < 4611686018427387904 →
   Calls P f #[.slice (some ⟨blk, off, none⟩) zs.length cap] w fun e w' => e = .returned (.tuple #[]) ∧ ∃ n os, w' = Go.Sort.grow (Go.Sort.putRow (Value.int .i64) (Go.Sort.ahead w n) blk off (zs.mergeSort fun x y => decide (x ≤ y)).toArray) os)
  (hN : ∀ (p : Option Addr) (cap : Nat) (w : World), Calls P f #[.slice p 0 cap] w fun e w' => e = .returned (.tuple #[]) ∧ w' = w)
  {W : World} {base : Nat} {v : Value} {xs : List Int} (h : Kd.R (Kd.int .i64) 3 W base (fun _ => True) v xs) (hlen : xs.length < 4611686018427387904) :
  Calls P f #[v] W fun e w' => e = .returned (.tuple #[]) ∧ Kd.R (Kd.int .i64) 3 w' base (fun _ => True) v (xs.mergeSort fun x y => decide (x ≤ y)) ∧ ∃ row, W.grownBy w' row ∧ ∀ k, row = some k → base ≤ k := by
 rcases intRow_open h with ⟨rfl, rfl⟩ | ⟨g, cap, cur, rfl, hb, h3, h4, h5, h6, h7⟩
 ·refine (hN none 0 W).mono ?_
  rintro e w' ⟨rfl, rfl⟩
  exact ⟨rfl, by simpa using h, none, World.grownBy.refl _ _, fun k hk => by cases hk⟩
 ·refine (hS g 0 cap xs W (intRow_holds h3 h7) (blk_lt h3) hlen).mono ?_
  rintro e w' ⟨rfl, n, os, rfl⟩
  have hl : (xs.mergeSort fun x y => decide (x ≤ y)).length = xs.length := List.length_mergeSort ..; refine ⟨rfl, ?_, some g, intRow_grown, fun k hk => by cases hk; exact hb⟩; have := intRow_close (xs := xs.mergeSort fun x y => decide (x ≤ y)) hb (intRow_put (n := n) (os := os) (d := xs.mergeSort fun x y => decide (x ≤ y)) h3) (by rw [hl]; exact h4) h5 (by simpa [Go.Sort.putCells] using h6) (putCells_take (by rw [hl]; omega))
  rwa [hl] at this
theorem compact_own {P : Program} {f : FuncId} (hS : ∀ (blk off cap : Nat) (zs : List Int) (w : World), Go.Sort.Holds (Value.int .i64) w blk off zs.toArray → zs.length ≤ 9223372036854775807 → zs.length ≤ cap →
   Calls P f #[.slice (some ⟨blk, off, none⟩) zs.length cap] w fun e w' => e = .returned (.slice (some ⟨blk, off, none⟩) (Go.Lib.compact zs).length cap) ∧ ∃ q, w' = Go.Sort.putRow (Value.int .i64) (Go.Sort.ahead w q) blk off (Go.Lib.compact zs ++ List.replicate (zs.length - (Go.Lib.compact zs).length) 0).toArray)
  (hN : ∀ (a : Option Addr) (cap : Nat) (w : World), Calls P f #[.slice a 0 cap] w fun e w' => e = .returned (.slice a 0 cap) ∧ w' = w)
  {W : World} {base : Nat} {v : Value} {xs : List Int} (h : Kd.R (Kd.int .i64) 3 W base (fun _ => True) v xs) (hlen : xs.length < 4611686018427387904) (hc : (Go.Lib.compact xs).length ≤ xs.length) :
  Calls P f #[v] W fun e w' => ∃ v', e = .returned v' ∧ Kd.R (Kd.int .i64) 3 w' base (fun _ => True) v' (Go.Lib.compact xs) ∧ ∃ row, W.grownBy w' row ∧ ∀ k, row = some k → base ≤ k := by
 rcases intRow_open h with ⟨rfl, rfl⟩ | ⟨g, cap, cur, rfl, hb, h3, h4, h5, h6, h7⟩
 ·refine (hN none 0 W).mono ?_
  rintro e w' ⟨rfl, rfl⟩
  exact ⟨_, rfl, h, none, World.grownBy.refl _ _, fun k hk => by cases hk⟩
 ·refine (hS g 0 cap xs W (intRow_holds h3 h7) (by omega) h4).mono ?_
  rintro e w' ⟨rfl, q, rfl⟩
  have hput := intRow_put (n := q) (os := #[]) (d := Go.Lib.compact xs ++ List.replicate (xs.length - (Go.Lib.compact xs).length) 0) h3; have hgr : W.grownBy _ (some g) := intRow_grown (W := W) (g := g) (n := q) (os := #[]) (d := Go.Lib.compact xs ++ List.replicate (xs.length - (Go.Lib.compact xs).length) 0); rw [Go.Sort.grow_empty] at hput hgr; refine ⟨_, rfl, intRow_close hb hput (by omega) h5 (by simpa [Go.Sort.putCells] using h6) ?_, some g, hgr, fun k hk => by cases hk; exact hb⟩; have := putCells_take (cur := cur) (d := Go.Lib.compact xs ++ List.replicate (xs.length - (Go.Lib.compact xs).length) 0) (by simp; omega); have t := congrArg (List.take (Go.Lib.compact xs).length) this; rw [List.take_take, Nat.min_eq_left (by simp)] at t; rw [t]
  simp
theorem covered_told {xs r : List Int} (h : (if xs.length < 4611686018427387904 then (if (Go.Lib.compact (xs.mergeSort fun x y => decide (x ≤ y))).length ≤ (xs.mergeSort fun x y => decide (x ≤ y)).length then (some (Go.Lib.compact (xs.mergeSort fun x y => decide (x ≤ y)))) else (none)) else (none)) = some r) :
  xs.length < 4611686018427387904 ∧ (Go.Lib.compact (xs.mergeSort fun x y => decide (x ≤ y))).length ≤ (xs.mergeSort fun x y => decide (x ≤ y)).length ∧ Go.Lib.compact (xs.mergeSort fun x y => decide (x ≤ y)) = r := by
 by_cases h1 : xs.length < 4611686018427387904
 ·rw [if_pos h1] at h; by_cases h2 : (Go.Lib.compact (xs.mergeSort fun x y => decide (x ≤ y))).length ≤ (xs.mergeSort fun x y => decide (x ≤ y)).length
  ·rw [if_pos h2] at h; exact ⟨h1, h2, Option.some.inj h⟩
  ·rw [if_neg h2] at h; cases h
 ·rw [if_neg h1] at h; cases h
mutual
def impl_Pile_covered.l0 : Nat → List Int → List (S46) → Int → Int → Option (List Int)
 | 0, _, _, _, _ => none
 | k + 1, x3, x9, x10, x11 => if x11 < x10 then (if 0 ≤ x11 then (if x11 < (x9.length : Int) then (impl_Pile_covered.l1 k x3 ((rd_T46 x9 x11).f7) x9 x10 x11 ((rd_T46 x9 x11).f0) ((rd_T46 x9 x11).f1) ((rd_T46 x9 x11).f2) ((rd_T46 x9 x11).f3) ((rd_T46 x9 x11).f4) ((rd_T46 x9 x11).f5) ((rd_T46 x9 x11).f6) ((rd_T46 x9 x11).f7) ((rd_T46 x9 x11).f8) ((rd_T46 x9 x11).f9)) else (none)) else (none)) else (some x3)
def impl_Pile_covered.l1 : Nat → List Int → Int → List (S46) → Int → Int → Int → Int → Bool → Int → Int → Int → Int → Int → Int → ByteArray → Option (List Int)
 | 0, _, _, _, _, _, _, _, _, _, _, _, _, _, _, _ => none
 | k + 1, x3, x6, x9, x10, x11, x319000, x319001, x319002, x319003, x319004, x319005, x319006, x319007, x319008, x319009 => (impl_Bundle_end.f x319000 x319001 x319002 x319003 x319004 x319005 x319006 x319007 x319008 x319009).bind fun t319 => (if x6 < t319 then (if x3.length < 17592186044416 then (impl_Pile_covered.l1 k (x3 ++ [x6]) (wrap64 (x6 + 1)) x9 x10 x11 x319000 x319001 x319002 x319003 x319004 x319005 x319006 x319007 x319008 x319009) else (none)) else (impl_Pile_covered.l0 k x3 x9 x10 (wrap64 (x11 + 1))))
end
def impl_Pile_covered.f (k : Nat) (l0_0 : List (S46)) : Option (List Int) := (impl_Pile_covered.l0 k (([] : List Int)) l0_0 (l0_0.length : Int) 0).bind fun xs_ => (if xs_.length < 4611686018427387904 then (if (Go.Lib.compact (xs_.mergeSort fun x y => decide (x ≤ y))).length ≤ (xs_.mergeSort fun x y => decide (x ≤ y)).length then (some (Go.Lib.compact (xs_.mergeSort fun x y => decide (x ≤ y)))) else (none)) else (none))
theorem impl_Pile_covered.mono_l : ∀ k, (∀ y0 y1 y2 y3, LeO (impl_Pile_covered.l0 k y0 y1 y2 y3) (impl_Pile_covered.l0 (k + 1) y0 y1 y2 y3)) ∧ (∀ y0 y1 y2 y3 y4 y5 y6 y7 y8 y9 y10 y11 y12 y13 y14, LeO (impl_Pile_covered.l1 k y0 y1 y2 y3 y4 y5 y6 y7 y8 y9 y10 y11 y12 y13 y14) (impl_Pile_covered.l1 (k + 1) y0 y1 y2 y3 y4 y5 y6 y7 y8 y9 y10 y11 y12 y13 y14))
 | 0 => ⟨fun _ _ _ _ r h => by simp [impl_Pile_covered.l0] at h, fun _ _ _ _ _ _ _ _ _ _ _ _ _ _ _ r h => by simp [impl_Pile_covered.l1] at h⟩
 | k + 1 => by
  obtain ⟨ih0, ih1⟩ := impl_Pile_covered.mono_l k; refine ⟨?_, ?_⟩
  ·intro y0 y1 y2 y3; unfold impl_Pile_covered.l0
   repeat' first
   | (with_reducible exact ih0 _ _ _ _)
   | (with_reducible exact ih1 _ _ _ _ _ _ _ _ _ _ _ _ _ _ _)
   | (with_reducible exact LeO.refl _)
   | (with_reducible exact LeO.none _)
   | (with_reducible refine LeO.ite ?_ ?_)
   | (with_reducible refine LeO.bind ?_ (fun _ => ?_))
   | exact ih0 _ _ _ _
   | exact ih1 _ _ _ _ _ _ _ _ _ _ _ _ _ _ _
   | exact LeO.none _
   | refine LeO.ite ?_ ?_
   | refine LeO.bind ?_ (fun _ => ?_)
  ·intro y0 y1 y2 y3 y4 y5 y6 y7 y8 y9 y10 y11 y12 y13 y14; unfold impl_Pile_covered.l1
   repeat' first
   | (with_reducible exact ih0 _ _ _ _)
   | (with_reducible exact ih1 _ _ _ _ _ _ _ _ _ _ _ _ _ _ _)
   | (with_reducible exact LeO.refl _)
   | (with_reducible exact LeO.none _)
   | (with_reducible refine LeO.ite ?_ ?_)
   | (with_reducible refine LeO.bind ?_ (fun _ => ?_))
   | exact ih0 _ _ _ _
   | exact ih1 _ _ _ _ _ _ _ _ _ _ _ _ _ _ _
   | exact LeO.none _
   | refine LeO.ite ?_ ?_
   | refine LeO.bind ?_ (fun _ => ?_)
theorem impl_Pile_covered.mono : ∀ a0 k, LeO (impl_Pile_covered.f k a0) (impl_Pile_covered.f (k + 1) a0) := by
 intro a0 k; obtain ⟨ih0, ih1⟩ := impl_Pile_covered.mono_l k; unfold impl_Pile_covered.f
 repeat' first
   | (with_reducible exact ih0 _ _ _ _)
   | (with_reducible exact ih1 _ _ _ _ _ _ _ _ _ _ _ _ _ _ _)
   | (with_reducible exact LeO.refl _)
   | (with_reducible exact LeO.none _)
   | (with_reducible refine LeO.ite ?_ ?_)
   | (with_reducible refine LeO.bind ?_ (fun _ => ?_))
   | exact ih0 _ _ _ _
   | exact ih1 _ _ _ _ _ _ _ _ _ _ _ _ _ _ _
   | exact LeO.none _
   | refine LeO.ite ?_ ?_
   | refine LeO.bind ?_ (fun _ => ?_)
set_option maxHeartbeats 8000000 in
set_option maxRecDepth 100000 in
theorem impl_Pile_covered.calls (k : Nat) (A0_0 : Option Addr) (c0_0 : Nat) (l0_0 : List (S46)) (r : List Int) (w : World) (hr0_0 : Kd.C k46 w A0_0 l0_0.length l0_0) (hc0_0 : l0_0.length ≤ c0_0) (h : impl_Pile_covered.f k l0_0 = some r) :
  Calls Try.prog 54 #[.agg #[.slice A0_0 l0_0.length c0_0]] w fun e w' => ∃ v0_ : Value, e = .returned (v0_) ∧ Kd.R (Kd.int .i64) 3 w' w.heap.size (fun _ => True) v0_ r ∧ Below w.heap.size w w' := by
 obtain ⟨r0, h, hr⟩ := Option.bind_eq_some_iff.mp h; have HRR := Aside0.mk hr; clear hr; have hu29 := Try.underlying29; have hu46 := Try.underlying46; have HR0_0 := Aside0.mk hr0_0; have HC0_0 := Aside0.mk hc0_0; clear hr0_0 hc0_0; have HB := Aside0.mk (Below.refl w.heap.size w); have H : (impl_Pile_covered.l0 k (([] : List Int)) l0_0 (l0_0.length : Int) 0) = some r0 := h; clear h; obtain ⟨y314, hy314⟩ : ∃ y_ : List Int, y_ = (([] : List Int)) := ⟨_, rfl⟩
 rw [← hy314] at H
 (try rw [Option.bind_some] at H)
 have Ny314 := Aside0.mk hy314; clear hy314; have H' := Aside0.mk H; clear H
 go_enter Try.func54, Try.ntmps54
 go_wp2_with (first | ((with_reducible refine gate_dst (N := 1) rfl ?_); refine be_ 1 29 #[.slice A0_0 l0_0.length c0_0] ?_; intro gb313 hg w2 hbox hb; have BK313 := Aside0.mk (hbox); have GW313 := ge_ HB hg; have GE313 := ge_ HB hg; replace HB := hb_ HB hb; clear hb hbox hg) | ((with_reducible refine gate_dst (N := 7) rfl ?_); refine Kd.R_lit (Kd.int .i64) _ 3 ?hg (N := 7) ?hd (xs := ([] : List Int)) (inner := []) (ok := fun _ => True) (okp := fun _ => True) ?hr ?hp (fun _ hk => hk) trivial (Below.refl _ _) (Nat.le_refl _) (by simp) ?_; (case hd => rfl); (case hg => rfl); (case hr => first | (go_simp; done) | (go_simp; rfl)); (case hp => exact (Reps.none _ _)); intro v315 w3 ho4 hb hg_ hnew_; clear hg_ hnew_; (first | rw [← Ny314.out] at ho4 | (simp only [Int.reduceToNat] at ho4; rw [← Ny314.out] at ho4)); have HO316 := Aside0.mk (Kd.R_lower ho4 (below_size (bq_ HB))); replace BK313 := ba_ BK313 hb; replace HB := hb_ HB hb; clear hb ho4; have hcz5_0 : w3.cell? ⟨gb313, 0, none⟩ = some (.slice A0_0 l0_0.length c0_0) := (blk_cell BK313.out 0).trans rfl; have hfz5_0 := blk_frozen BK313.out 0))
 go_loopg [3, 11] k (fun kq v3 v11 w' => ∃ (x3_1 : List Int) (x11_1 : Int), v11 = .int .i64 x11_1 ∧ Aside0 (impl_Pile_covered.l0 kq x3_1 l0_0 (l0_0.length : Int) x11_1 = some r0) ∧ Aside0 (kq ≤ k) ∧ Aside0 (Kd.R (Kd.int .i64) 3 w' w.heap.size (fun _ => True) v3 x3_1) ∧ Aside0 (w'.heap[gb313]? = some (.cells #[(.slice A0_0 l0_0.length c0_0)] 29 (0, 0))) ∧ Aside0 (Below w.heap.size w w'))
 case atStart => exact ⟨(y314), (0), fs_, H', ⟨Nat.le_refl _⟩, ⟨rq_⟩, ⟨pq_⟩, ⟨bq_ HB⟩⟩
 case round =>
  clear H'; try clear p2
  try clear c5
  try clear hcz5_0
  try clear hfz5_0
  obtain ⟨x3_1, x11_1, rfl, HA, HK1, HO_3, BK313, HB⟩ := hrel; cases gk with
  | zero => exact absurd HA.out (by simp [impl_Pile_covered.l0])
  | succ k1 =>
   have H := HA.out; clear HA; simp only [impl_Pile_covered.l0] at H; by_cases c6 : x11_1 < (l0_0.length : Int)
   ·rw [if_pos c6] at H; have c6b0 : decide (x11_1 < (l0_0.length : Int)) = true := decide_eq_true c6; clear c6; by_cases c7 : 0 ≤ x11_1
    ·rw [if_pos c7] at H; have c7b0 : decide (0 ≤ x11_1) = true := decide_eq_true c7; clear c7; by_cases c8 : x11_1 < (l0_0.length : Int)
     ·rw [if_pos c8] at H; have c8b0 : decide (x11_1 < (l0_0.length : Int)) = true := decide_eq_true c8; clear c8; have H' := Aside0.mk H; clear H; have p317 : 0 ≤ (x11_1 : Int) := od_; have q317 : x11_1 < (l0_0.length : Int) := od_; obtain ⟨ad317, e317, hx317_0, hx317_1, hx317_2, hx317_3, hx317_4, hx317_5, hx317_6, hx317_7, hx317_8, hx317_9⟩ := at_T46 HR0_0.out x11_1 p317 q317; cases e317; replace hx317_0 := ce_ HB.out hx317_0; replace hx317_1 := ce_ HB.out hx317_1; replace hx317_2 := ce_ HB.out hx317_2; replace hx317_3 := ce_ HB.out hx317_3; replace hx317_4 := ce_ HB.out hx317_4; replace hx317_5 := ce_ HB.out hx317_5; replace hx317_6 := ce_ HB.out hx317_6; replace hx317_7 := ce_ HB.out hx317_7; replace hx317_8 := ce_ HB.out hx317_8; replace hx317_9 := ce_ HB.out hx317_9; replace p317 := eq_true p317; replace q317 := eq_true q317; go_wp2_with (first | ((with_reducible refine gate_dst (N := 5) rfl ?_); refine be_ 5 46 (#[.int .i64 0, .int .i64 0, .bool false, .int .i64 0, .int .i64 0, .int .i64 0, .int .i64 0, .int .i64 0, .int .i64 0, .string (⟨#[]⟩ : ByteArray)]) ?_; intro gb318 hg w9 hbox hb; replace HO_3 := ra_ HO_3 hb; have BK318 := Aside0.mk (hbox); have GW318 := ge_ HB hg; have GE318 := ge_ HB hg; replace HB := hb_ HB hb; have NB313_318 := nl_ BK313 hg; have NB318_313 := ng_ BK313 hg; replace BK313 := ba_ BK313 hb; clear hb hbox hg; have hnb10 := NB318_313.out; have hnc10 := NB313_318.out; obtain ⟨hcz11_0, hcz11_1, hcz11_2, hcz11_3, hcz11_4, hcz11_5, hcz11_6, hcz11_7, hcz11_8, hcz11_9, hfz11_0, hfz11_1, hfz11_2, hfz11_3, hfz11_4, hfz11_5, hfz11_6, hfz11_7, hfz11_8, hfz11_9⟩ := cf10 BK318.out))
      go_loopg [3, 6] k1 (fun kq v3 v6 w' => ∃ (x3_2 : List Int) (x6_2 : Int), v6 = .int .i64 x6_2 ∧ Aside0 (impl_Pile_covered.l1 kq x3_2 x6_2 l0_0 (l0_0.length : Int) x11_1 ((rd_T46 l0_0 x11_1).f0) ((rd_T46 l0_0 x11_1).f1) ((rd_T46 l0_0 x11_1).f2) ((rd_T46 l0_0 x11_1).f3) ((rd_T46 l0_0 x11_1).f4) ((rd_T46 l0_0 x11_1).f5) ((rd_T46 l0_0 x11_1).f6) ((rd_T46 l0_0 x11_1).f7) ((rd_T46 l0_0 x11_1).f8) ((rd_T46 l0_0 x11_1).f9) = some r0) ∧ Aside0 (kq ≤ k1) ∧ Aside0 (Kd.R (Kd.int .i64) 3 w' w.heap.size (fun _ => True) v3 x3_2) ∧ Aside0 (w'.heap[gb313]? = some (.cells #[(.slice (some ad317) l0_0.length c0_0)] 29 (0, 0))) ∧ Aside0 (w'.heap[gb318]? = some (.cells #[.int .i64 ((rd_T46 l0_0 x11_1).f0), .int .i64 ((rd_T46 l0_0 x11_1).f1), .bool ((rd_T46 l0_0 x11_1).f2), .int .i64 ((rd_T46 l0_0 x11_1).f3), .int .i64 ((rd_T46 l0_0 x11_1).f4), .int .i64 ((rd_T46 l0_0 x11_1).f5), .int .i64 ((rd_T46 l0_0 x11_1).f6), .int .i64 ((rd_T46 l0_0 x11_1).f7), .int .i64 ((rd_T46 l0_0 x11_1).f8), .string ((rd_T46 l0_0 x11_1).f9)] 46 (0, 0))) ∧ Aside0 (Below w.heap.size w w'))
      case atStart => exact ⟨(x3_1), ((rd_T46 l0_0 x11_1).f7), fs_, H', ⟨Nat.le_refl _⟩, ⟨by (with_reducible repeat (first | apply Kd.R_alloc | apply Kd.R_drewN | apply Kd.R_drew)); exact Kd.R_mono (Kd.R_far (p := ⟨gb318, 9, none⟩) (Kd.R_far (p := ⟨gb318, 8, none⟩) (Kd.R_far (p := ⟨gb318, 7, none⟩) (Kd.R_far (p := ⟨gb318, 6, none⟩) (Kd.R_far (p := ⟨gb318, 5, none⟩) (Kd.R_far (p := ⟨gb318, 4, none⟩) (Kd.R_far (p := ⟨gb318, 3, none⟩) (Kd.R_far (p := ⟨gb318, 2, none⟩) (Kd.R_far (p := ⟨gb318, 1, none⟩) (Kd.R_far (p := ⟨gb318, 0, none⟩) (Kd.R_types HO_3.out BK318.out (by decide)) (fun _ hk => hk.2) (.int .i64 ((rd_T46 l0_0 x11_1).f0))) (fun _ hk => hk.2) (.int .i64 ((rd_T46 l0_0 x11_1).f1))) (fun _ hk => hk.2) (.bool ((rd_T46 l0_0 x11_1).f2))) (fun _ hk => hk.2) (.int .i64 ((rd_T46 l0_0 x11_1).f3))) (fun _ hk => hk.2) (.int .i64 ((rd_T46 l0_0 x11_1).f4))) (fun _ hk => hk.2) (.int .i64 ((rd_T46 l0_0 x11_1).f5))) (fun _ hk => hk.2) (.int .i64 ((rd_T46 l0_0 x11_1).f6))) (fun _ hk => hk.2) (.int .i64 ((rd_T46 l0_0 x11_1).f7))) (fun _ hk => hk.2) (.int .i64 ((rd_T46 l0_0 x11_1).f8))) (fun _ hk => hk.2) (.string ((rd_T46 l0_0 x11_1).f9))) (fun _ hk => trivial)⟩, ⟨by (with_reducible repeat (first | refine blk_drewN ?_ _ | refine blk_drew ?_ | refine blk_alloc ?_ _)); (iterate 10 refine blk_far ?_ NB313_318.out _); (with_reducible repeat (first | refine blk_drewN ?_ _ | refine blk_drew ?_ | refine blk_alloc ?_ _)); exact BK313.out⟩, ⟨pb10_⟩, ⟨bq_ HB⟩⟩
      case round =>
       clear H'; try clear c1
       try clear p2
       try clear p3
       try clear q3
       try clear hx3
       try clear c5
       try clear c6
       try clear c6b0
       try clear c7
       try clear c7b0
       try clear c8
       try clear c8b0
       try clear c10
       try clear hcz11_0
       try clear hcz11_1
       try clear hcz11_2
       try clear hcz11_3
       try clear hcz11_4
       try clear hcz11_5
       try clear hcz11_6
       try clear hcz11_7
       try clear hcz11_8
       try clear hcz11_9
       try clear hcz5_0
       try clear hfz11_0
       try clear hfz11_1
       try clear hfz11_2
       try clear hfz11_3
       try clear hfz11_4
       try clear hfz11_5
       try clear hfz11_6
       try clear hfz11_7
       try clear hfz11_8
       try clear hfz11_9
       try clear hfz5_0
       try clear hx317_0
       try clear hx317_1
       try clear hx317_2
       try clear hx317_3
       try clear hx317_4
       try clear hx317_5
       try clear hx317_6
       try clear hx317_7
       try clear hx317_8
       try clear hx317_9
       try clear p2
       try clear p317
       try clear q317
       obtain ⟨x3_2, x6_2, rfl, HA, HK2, HO_3, BK313, BK318, HB⟩ := hrel; cases gk with
       | zero => exact absurd HA.out (by simp [impl_Pile_covered.l1])
       | succ k2 =>
        have H := HA.out; clear HA; simp only [impl_Pile_covered.l1] at H; replace H := Option.bind_eq_some_iff.mp H; obtain ⟨t319, A120, H⟩ := H; (try dsimp only at H); have A12 := Aside0.mk A120; clear A120; by_cases c13 : x6_2 < t319
        ·rw [if_pos c13] at H; have c13b0 : decide (x6_2 < t319) = true := decide_eq_true c13; clear c13; by_cases c14 : x3_2.length < 17592186044416
         ·rw [if_pos c14] at H; have LMc14 := Aside0.mk c14; clear c14; obtain ⟨y320, hy320⟩ : ∃ y_ : List Int, y_ = (x3_2 ++ [x6_2]) := ⟨_, rfl⟩
          rw [← hy320] at H
          (try rw [Option.bind_some] at H)
          have Ny320 := Aside0.mk hy320; clear hy320; have H' := Aside0.mk H; clear H; have hnb15 := NB318_313.out; have hnc15 := NB313_318.out; obtain ⟨hcz16_0, hcz16_1, hcz16_2, hcz16_3, hcz16_4, hcz16_5, hcz16_6, hcz16_7, hcz16_8, hcz16_9, hfz16_0, hfz16_1, hfz16_2, hfz16_3, hfz16_4, hfz16_5, hfz16_6, hfz16_7, hfz16_8, hfz16_9⟩ := cf10 BK318.out; go_wp2_with (first | ((with_reducible refine gate_callee (f := 70) rfl ?_); refine goesL_ (some 19) rfl rfl Try.func70 (by kernel_rfl) rfl #[.agg #[.int .i64 ((rd_T46 l0_0 x11_1).f0), .int .i64 ((rd_T46 l0_0 x11_1).f1), .bool ((rd_T46 l0_0 x11_1).f2), .int .i64 ((rd_T46 l0_0 x11_1).f3), .int .i64 ((rd_T46 l0_0 x11_1).f4), .int .i64 ((rd_T46 l0_0 x11_1).f5), .int .i64 ((rd_T46 l0_0 x11_1).f6), .int .i64 ((rd_T46 l0_0 x11_1).f7), .int .i64 ((rd_T46 l0_0 x11_1).f8), .string ((rd_T46 l0_0 x11_1).f9)]] rfl ma_ ?_; (with_reducible refine (impl_Bundle_end.calls ((rd_T46 l0_0 x11_1).f0) ((rd_T46 l0_0 x11_1).f1) ((rd_T46 l0_0 x11_1).f2) ((rd_T46 l0_0 x11_1).f3) ((rd_T46 l0_0 x11_1).f4) ((rd_T46 l0_0 x11_1).f5) ((rd_T46 l0_0 x11_1).f6) ((rd_T46 l0_0 x11_1).f7) ((rd_T46 l0_0 x11_1).f8) ((rd_T46 l0_0 x11_1).f9) t319 _ A12.out).mono ?_); rintro e w17 ⟨rfl, hb⟩; refine ⟨_, rfl, ?_⟩; replace HO_3 := ra_ HO_3 hb; replace BK313 := ba_ BK313 hb; replace BK318 := ba_ BK318 hb; replace HB := hb_ HB hb; (try clear hb); (try clear hb2); (try clear hk); (try clear hi)) | ((with_reducible refine gate_builtin (b := .append) (xs := #[.tmp 23, .tmp 25]) rfl ?_); at_builtin; refine Kd.R_append (Kd.int .i64) (w0 := w) w.heap.size rfl (.tmp 23) (.tmp 25) 33 3 (.int .i64 0) 8 rfl Try.underlying33 info3 rfl (by decide) (by omega) u3 x3_2 x6_2 [.int .i64 x6_2] (fun _ => True) (fun _ => False) rfl rfl ?aP (fun _ hk => hk.elim) ?aF ?aO ?aB ?aS ?aL ?_; (case aP => exact rfl); (case aB => exact (bq_ HB)); (case aF => exact (fun _ _ => trivial)); (case aO => exact (by (with_reducible repeat (first | apply Kd.R_alloc | apply Kd.R_drewN | apply Kd.R_drew)); exact HO_3.out)); (case aS => exact (below_size (bq_ HB))); (case aL => have := LMc14.out; omega); intro v321 w18 ho hb hg hat; rw [← Ny320.out] at ho; replace BK313 := bg_ BK313 hg (Kd.R_ne HO_3.out BK313.out (by decide)); replace BK318 := bg_ BK318 hg (Kd.R_ne HO_3.out BK318.out (by decide)); replace HB := Aside0.mk (hb); have HO322 := Aside0.mk (ho); clear HO_3; clear ho hb hg hat)); go_roundg k2
          case measure => have := HK1.out; have := HK2.out; omega
          case rel => exact ⟨(y320), (wrap64 (x6_2 + 1)), fs_, H', ⟨by have := HK1.out; have := HK2.out; omega⟩, ⟨rq_⟩, ⟨pq_⟩, ⟨pq_⟩, ⟨bq_ HB⟩⟩
         ·rw [if_neg c14] at H; exact no_ H
        ·rw [if_neg c13] at H; have c13b0 : decide (x6_2 < t319) = false := decide_eq_false c13; clear c13; have H' := Aside0.mk H; clear H; have hnb19 := NB318_313.out; have hnc19 := NB313_318.out; obtain ⟨hcz20_0, hcz20_1, hcz20_2, hcz20_3, hcz20_4, hcz20_5, hcz20_6, hcz20_7, hcz20_8, hcz20_9, hfz20_0, hfz20_1, hfz20_2, hfz20_3, hfz20_4, hfz20_5, hfz20_6, hfz20_7, hfz20_8, hfz20_9⟩ := cf10 BK318.out; go_wp2_with (first | ((with_reducible refine gate_callee (f := 70) rfl ?_); refine goesL_ (some 19) rfl rfl Try.func70 (by kernel_rfl) rfl #[.agg #[.int .i64 ((rd_T46 l0_0 x11_1).f0), .int .i64 ((rd_T46 l0_0 x11_1).f1), .bool ((rd_T46 l0_0 x11_1).f2), .int .i64 ((rd_T46 l0_0 x11_1).f3), .int .i64 ((rd_T46 l0_0 x11_1).f4), .int .i64 ((rd_T46 l0_0 x11_1).f5), .int .i64 ((rd_T46 l0_0 x11_1).f6), .int .i64 ((rd_T46 l0_0 x11_1).f7), .int .i64 ((rd_T46 l0_0 x11_1).f8), .string ((rd_T46 l0_0 x11_1).f9)]] rfl ma_ ?_; (with_reducible refine (impl_Bundle_end.calls ((rd_T46 l0_0 x11_1).f0) ((rd_T46 l0_0 x11_1).f1) ((rd_T46 l0_0 x11_1).f2) ((rd_T46 l0_0 x11_1).f3) ((rd_T46 l0_0 x11_1).f4) ((rd_T46 l0_0 x11_1).f5) ((rd_T46 l0_0 x11_1).f6) ((rd_T46 l0_0 x11_1).f7) ((rd_T46 l0_0 x11_1).f8) ((rd_T46 l0_0 x11_1).f9) t319 _ A12.out).mono ?_); rintro e w21 ⟨rfl, hb⟩; refine ⟨_, rfl, ?_⟩; replace HO_3 := ra_ HO_3 hb; replace BK313 := ba_ BK313 hb; replace BK318 := ba_ BK318 hb; replace HB := hb_ HB hb; (try clear hb); (try clear hb2); (try clear hk); (try clear hi))); go_roundg k2
         case measure => have := HK1.out; have := HK2.out; omega
         case rel => exact ⟨(x3_2), (wrap64 (x11_1 + 1)), fs_, H', ⟨by have := HK1.out; have := HK2.out; omega⟩, ⟨rq_⟩, ⟨pq_⟩, ⟨bq_ HB⟩⟩
     ·rw [if_neg c8] at H; exact no_ H
    ·rw [if_neg c7] at H; exact no_ H
   ·rw [if_neg c6] at H; have c6b0 : decide (x11_1 < (l0_0.length : Int)) = false := decide_eq_false c6; clear c6; have e0 := Option.some.inj H; have hr := HRR.out; rw [← e0] at hr; clear e0 H; obtain ⟨hq1, hq2, hq3⟩ := covered_told hr; clear hr; clear HRR; subst hq3; go_wp2_with (first | ((with_reducible refine gate_callee (f := 71) rfl ?_); refine goesL_ (some 29) rfl rfl Try.func71 (by kernel_rfl) rfl #[_] rfl (by (try simp only [List.map_toArray, List.map_cons, List.map_nil]); first | done | rfl) ?_; refine (sort_own (fun b o c z w h1 h2 h3 => Try.slices_Sort_int b o c z w h1 h2 h3) (fun p c w => Try.slices_Sort_int_none p c w) (by (with_reducible repeat (first | apply Kd.R_alloc | apply Kd.R_drewN | apply Kd.R_drew)); exact HO_3.out) hq1).mono ?_; rintro e w_ ⟨rfl, hR, row, hg_, hrow⟩; refine ⟨_, rfl, ?_⟩; have n0_ := Aside0.mk hR; have n1_ := Aside0.mk (Below.grown (by repeat (first | (with_reducible first | exact HB.out | apply below_alloc | apply pw_below_drewN | apply below_drew1 | refine below_set ?_ GE313.out) | exact HB.out | (with_reducible exact Below.refl _ _)) : Below w.heap.size w _) hg_ (below_size (bq_ HB)) hrow); clear HO_3 HB; have HO_3 := n0_; have HB := n1_; clear n0_ n1_ hR hg_ hrow) | ((with_reducible refine gate_callee (f := 72) rfl ?_); refine goesL_ (some 31) rfl rfl Try.func72 (by kernel_rfl) rfl #[_] rfl (by (try simp only [List.map_toArray, List.map_cons, List.map_nil]); first | done | rfl) ?_; refine (compact_own (fun b o c z w h1 h2 h3 => Try.slices_Compact_int b o c z w h1 h2 h3) (fun p c w => Try.slices_Compact_int_empty p c w) (by (with_reducible repeat (first | apply Kd.R_alloc | apply Kd.R_drewN | apply Kd.R_drew)); exact HO_3.out) (by rw [List.length_mergeSort]; exact hq1) hq2).mono ?_; rintro e w_ ⟨v_, rfl, hR, row, hg_, hrow⟩; refine ⟨_, rfl, ?_⟩; have n0_ := Aside0.mk hR; have n1_ := Aside0.mk (Below.grown (by repeat (first | (with_reducible first | exact HB.out | apply below_alloc | apply pw_below_drewN | apply below_drew1 | refine below_set ?_ GE313.out) | exact HB.out | (with_reducible exact Below.refl _ _)) : Below w.heap.size w _) hg_ (below_size (bq_ HB)) hrow); clear HO_3 HB; have HO_3 := n0_; have HB := n1_; clear n0_ n1_ hR hg_ hrow)); go_ret; exact ⟨_, by first | rfl | (simp; done), (by (with_reducible repeat (first | apply Kd.R_alloc | apply Kd.R_drewN | apply Kd.R_drew)); exact HO_3.out), bq_ HB⟩
def impl_Covered.f (k : Nat) (l0_0 : List (S46)) : Option (List Int × Bool) := (impl_GoodPile.f k l0_0).bind fun t150 => (if t150 = true then ((impl_Pile_covered.f k l0_0).bind fun t151 => (some (t151, true))) else (some (([] : List Int), false)))
theorem impl_Covered.mono : ∀ a0 k, LeO (impl_Covered.f k a0) (impl_Covered.f (k + 1) a0) := by
 intro a0 k; unfold impl_Covered.f
 repeat' first
   | (with_reducible exact impl_GoodPile.mono _ _)
   | (with_reducible exact impl_Pile_covered.mono _ _)
   | (with_reducible exact LeO.refl _)
   | (with_reducible exact LeO.none _)
   | (with_reducible refine LeO.ite ?_ ?_)
   | (with_reducible refine LeO.bind ?_ (fun _ => ?_))
   | exact impl_GoodPile.mono _ _
   | exact impl_Pile_covered.mono _ _
   | exact LeO.none _
   | refine LeO.ite ?_ ?_
   | refine LeO.bind ?_ (fun _ => ?_)
set_option maxHeartbeats 8000000 in
set_option maxRecDepth 100000 in
theorem impl_Covered.calls (k : Nat) (A0_0 : Option Addr) (c0_0 : Nat) (l0_0 : List (S46)) (r1 : List Int) (r2 : Bool) (w : World) (hr0_0 : Kd.C k46 w A0_0 l0_0.length l0_0) (hc0_0 : l0_0.length ≤ c0_0) (h : impl_Covered.f k l0_0 = some (r1, r2)) :
  Calls Try.prog 16 #[.agg #[.slice A0_0 l0_0.length c0_0]] w fun e w' => ∃ v0_ : Value, e = .returned (.tuple #[v0_, .bool r2]) ∧ Kd.R (Kd.int .i64) 3 w' w.heap.size (fun _ => True) v0_ r1 ∧ Below w.heap.size w w' := by
 have hu29 := Try.underlying29; have HR0_0 := Aside0.mk hr0_0; have HC0_0 := Aside0.mk hc0_0; clear hr0_0 hc0_0; have HB := Aside0.mk (Below.refl w.heap.size w); have H : ((impl_GoodPile.f k l0_0).bind fun t150 => (if t150 = true then ((impl_Pile_covered.f k l0_0).bind fun t151 => (some (t151, true))) else (some (([] : List Int), false)))) = some (r1, r2) := h; clear h; replace H := Option.bind_eq_some_iff.mp H; obtain ⟨t150, A20, H⟩ := H; (try dsimp only at H); have A2 := Aside0.mk A20; clear A20; by_cases c3 : t150 = true
 ·subst c3; rw [if_pos rfl] at H; replace H := Option.bind_eq_some_iff.mp H; obtain ⟨t151, A40, H⟩ := H; replace H : (some (t151, true)) = some (r1, r2) := H; have A4 := Aside0.mk A40; clear A40; simp only [Option.some.injEq, Prod.mk.injEq] at H; obtain ⟨rfl, rfl⟩ := H
  go_enter Try.func16, Try.ntmps16
  go_wp2_with (first | ((with_reducible refine gate_dst (N := 1) rfl ?_); refine be_ 1 29 #[.slice A0_0 l0_0.length c0_0] ?_; intro gb149 hg w5 hbox hb; have BK149 := Aside0.mk (hbox); have GW149 := ge_ HB hg; have GE149 := ge_ HB hg; replace HB := hb_ HB hb; clear hb hbox hg; have hcz6_0 : w5.cell? ⟨gb149, 0, none⟩ = some (.slice A0_0 l0_0.length c0_0) := (blk_cell BK149.out 0).trans rfl; have hfz6_0 := blk_frozen BK149.out 0) | ((with_reducible refine gate_callee (f := 13) rfl ?_); refine goesL_ (some 5) rfl rfl Try.func13 (by kernel_rfl) rfl #[.agg #[.slice A0_0 l0_0.length c0_0]] rfl ma_ ?_; (with_reducible refine (impl_GoodPile.calls k _ _ l0_0 true _ ?side1 ?side2 A2.out).mono ?_); (case side1 => repeat (first | exact (Kd.C_below HR0_0.out HB.out) | with_reducible first | refine Kd.C_alloc ?_ _ | refine Kd.C_drewN ?_ _ | refine Kd.C_drew ?_)); (case side2 => exact HC0_0.out); rintro e w7 ⟨rfl, hb⟩; refine ⟨_, rfl, ?_⟩; replace BK149 := ba_ BK149 hb; replace HB := hb_ HB hb; (try clear hb); (try clear hb2); (try clear hk); (try clear hi); have hcz8_0 : w7.cell? ⟨gb149, 0, none⟩ = some (.slice A0_0 l0_0.length c0_0) := (blk_cell BK149.out 0).trans rfl; have hfz8_0 := blk_frozen BK149.out 0) | ((with_reducible refine gate_callee (f := 54) rfl ?_); refine goesL_ (some 8) rfl rfl Try.func54 (by kernel_rfl) rfl #[.agg #[.slice A0_0 l0_0.length c0_0]] rfl ma_ ?_; (with_reducible refine (impl_Pile_covered.calls k _ _ l0_0 t151 _ ?side1 ?side2 A4.out).mono ?_); (case side1 => repeat (first | exact (Kd.C_below HR0_0.out HB.out) | with_reducible first | refine Kd.C_alloc ?_ _ | refine Kd.C_drewN ?_ _ | refine Kd.C_drew ?_)); (case side2 => exact HC0_0.out); rintro e w9 ⟨v152, rfl, ho0, hb⟩; refine ⟨_, rfl, ?_⟩; have HO153 := Aside0.mk (Kd.R_lower ho0 (below_size (bq_ HB))); replace BK149 := ba_ BK149 hb; replace HB := hb_ HB hb; (try clear hb); (try clear hb2); (try clear hk); (try clear hi); (try clear ho0))); go_ret2; exact ⟨_, er_, by (with_reducible repeat (first | apply Kd.R_alloc | apply Kd.R_drewN | apply Kd.R_drew)); exact HO153.out, bq_ HB⟩
 ·replace c3 := Bool.eq_false_iff.mpr c3; subst c3; rw [if_neg (show ¬ (false = true) by decide)] at H; simp only [Option.some.injEq, Prod.mk.injEq] at H; obtain ⟨rfl, rfl⟩ := H
  go_enter Try.func16, Try.ntmps16
  go_wp2_with (first | ((with_reducible refine gate_dst (N := 1) rfl ?_); refine be_ 1 29 #[.slice A0_0 l0_0.length c0_0] ?_; intro gb149 hg w10 hbox hb; have BK149 := Aside0.mk (hbox); have GW149 := ge_ HB hg; have GE149 := ge_ HB hg; replace HB := hb_ HB hb; clear hb hbox hg; have hcz11_0 : w10.cell? ⟨gb149, 0, none⟩ = some (.slice A0_0 l0_0.length c0_0) := (blk_cell BK149.out 0).trans rfl; have hfz11_0 := blk_frozen BK149.out 0) | ((with_reducible refine gate_callee (f := 13) rfl ?_); refine goesL_ (some 5) rfl rfl Try.func13 (by kernel_rfl) rfl #[.agg #[.slice A0_0 l0_0.length c0_0]] rfl ma_ ?_; (with_reducible refine (impl_GoodPile.calls k _ _ l0_0 false _ ?side1 ?side2 A2.out).mono ?_); (case side1 => repeat (first | exact (Kd.C_below HR0_0.out HB.out) | with_reducible first | refine Kd.C_alloc ?_ _ | refine Kd.C_drewN ?_ _ | refine Kd.C_drew ?_)); (case side2 => exact HC0_0.out); rintro e w12 ⟨rfl, hb⟩; refine ⟨_, rfl, ?_⟩; replace BK149 := ba_ BK149 hb; replace HB := hb_ HB hb; (try clear hb); (try clear hb2); (try clear hk); (try clear hi))); go_ret2; exact ⟨_, er_, by first | exact Kd.R_nil _ _ _ _ _ | exact Kd.N_nil _ _ _ _ _ | exact Kd.V_nil _ _ _ _ _ | exact Kd.Q_nil _ _ _ _ _ | exact Kd.S_nil _ _ _ _ _, bq_ HB⟩
end Go.Proofs.Ytlkbbolkadkedaa.QFnCovers
