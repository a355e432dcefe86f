import Derived.Test.YtaffjcaohbkmoaaQFnBundlesx0
import Derived.Test.YtaffjcaohbkmoaaQFnBundlesx6
import Derived.Test.YtaffjcaohbkmoaaQFnBundlesx14
import Derived.Test.YtaffjcaohbkmoaaSq
namespace Go.Proofs.Ytaffjcaohbkmoaa.QFnBundles
open Go.RowKit Go.Proofs.YtaffjcaohbkmoaaW.PrintWords Go.Proofs.YtaffjcaohbkmoaaW.PrintLast Go.Proofs.YtaffjcaohbkmoaaW.PrintMore
attribute [local go_sem] max2_int min2_int max_two min_two max_three min_three max_four min_four   -- for this text's walks alone
set_option linter.unusedVariables false
set_option linter.unusedSimpArgs false
mutual
def spec_l2TakeHead.j0 : Nat → ByteArray → Int → Int → Int → Int → Option (Int × Int × Int × Bool)
 | 0, _, _, _, _, _ => none
 | k + 1, x0, x1, x8, x9, x10 => if x9 > 26 then (spec_l2TakeHead.j1 k x0 x1 x8 x9 x10 true) else (spec_l2TakeHead.j1 k x0 x1 x8 x9 x10 (decide ((wrap64 ((wrap64 (x1 + 1)) + x10)) > (x0.size : Int))))
def spec_l2TakeHead.j1 : Nat → ByteArray → Int → Int → Int → Int → Bool → Option (Int × Int × Int × Bool)
 | 0, _, _, _, _, _, _ => none
 | k + 1, x0, x1, x8, x9, x10, x44 => if x44 = true then (some (0, 0, 0, false)) else (if x10 > 0 then (if 0 ≤ (wrap64 (x1 + 1)) then (if (wrap64 (x1 + 1)) ≤ (wrap64 ((wrap64 (x1 + 1)) + x10)) then (if (wrap64 ((wrap64 (x1 + 1)) + x10)) ≤ (x0.size : Int) then (if (x0.extract ((wrap64 (x1 + 1)) : Int).toNat ((wrap64 ((wrap64 (x1 + 1)) + x10)) : Int).toNat).size ≤ 9223372036854775807 then ((some (bytesOf (x0.extract ((wrap64 (x1 + 1)) : Int).toNat ((wrap64 ((wrap64 (x1 + 1)) + x10)) : Int).toNat) : List Int)).bind fun y402 => (spec_l2TakeHead.l0 k x0 x1 x8 0 x10 y402 (y402.length : Int) 0)) else (none)) else (none)) else (none)) else (none)) else (spec_l2TakeHead.j3 k x0 x1 x8 x9 x10))
def spec_l2TakeHead.j3 : Nat → ByteArray → Int → Int → Int → Int → Option (Int × Int × Int × Bool)
 | 0, _, _, _, _, _ => none
 | k + 1, x0, x1, x8, x9, x10 => (spec_l1Value.f x9).bind fun t406 => (if t406 = true then ((spec_l2Head.f k x8 x9).bind fun t407 => (if 0 ≤ x1 then (if x1 ≤ (wrap64 ((wrap64 (x1 + 1)) + x10)) then (if (wrap64 ((wrap64 (x1 + 1)) + x10)) ≤ (x0.size : Int) then (if t407.toList = (x0.extract (x1 : Int).toNat ((wrap64 ((wrap64 (x1 + 1)) + x10)) : Int).toNat).toList then (some (x8, x9, wrap64 ((wrap64 (x1 + 1)) + x10), true)) else (some (0, 0, 0, false))) else (none)) else (none)) else (none))) else (some (0, 0, 0, false)))
def spec_l2TakeHead.l0 : Nat → ByteArray → Int → Int → Int → Int → List Int → Int → Int → Option (Int × Int × Int × Bool)
 | 0, _, _, _, _, _, _, _, _ => none
 | k + 1, x0, x1, x8, x9, x10, x55, x56, x57 => if x57 < x56 then (if 0 ≤ x57 then (if x57 < (x55.length : Int) then (spec_l2TakeHead.l0 k x0 x1 x8 (Go.bits .or .i64 (wrap64 (x9 * 256)) (wrap64 (rd x55 x57))) x10 x55 x56 (wrap64 (x57 + 1))) else (none)) else (none)) else (spec_l2TakeHead.j3 k x0 x1 x8 x9 x10)
end
def spec_l2TakeHead.f (k : Nat) (a0 : ByteArray) (a1 : Int) : Option (Int × Int × Int × Bool) := if a1 ≥ (a0.size : Int) then (some (0, 0, 0, false)) else (if 0 ≤ a1 then (if a1 < (a0.size : Int) then (if (Int.tmod (wrap64 (bt a0 a1)) 32) = 24 then (spec_l2TakeHead.j0 k a0 a1 (wrap64 (Int.tdiv (wrap64 (bt a0 a1)) 32)) (Int.tmod (wrap64 (bt a0 a1)) 32) 1) else (if (Int.tmod (wrap64 (bt a0 a1)) 32) = 25 then (spec_l2TakeHead.j0 k a0 a1 (wrap64 (Int.tdiv (wrap64 (bt a0 a1)) 32)) (Int.tmod (wrap64 (bt a0 a1)) 32) 2) else (if (Int.tmod (wrap64 (bt a0 a1)) 32) = 26 then (spec_l2TakeHead.j0 k a0 a1 (wrap64 (Int.tdiv (wrap64 (bt a0 a1)) 32)) (Int.tmod (wrap64 (bt a0 a1)) 32) 4) else (spec_l2TakeHead.j0 k a0 a1 (wrap64 (Int.tdiv (wrap64 (bt a0 a1)) 32)) (Int.tmod (wrap64 (bt a0 a1)) 32) 0)))) else (none)) else (none))
theorem spec_l2TakeHead.mono_l : ∀ k, (∀ y0 y1 y2 y3 y4, LeO (spec_l2TakeHead.j0 k y0 y1 y2 y3 y4) (spec_l2TakeHead.j0 (k + 1) y0 y1 y2 y3 y4)) ∧ (∀ y0 y1 y2 y3 y4 y5, LeO (spec_l2TakeHead.j1 k y0 y1 y2 y3 y4 y5) (spec_l2TakeHead.j1 (k + 1) y0 y1 y2 y3 y4 y5)) ∧ (∀ y0 y1 y2 y3 y4, LeO (spec_l2TakeHead.j3 k y0 y1 y2 y3 y4) (spec_l2TakeHead.j3 (k + 1) y0 y1 y2 y3 y4)) ∧ (∀ y0 y1 y2 y3 y4 y5 y6 y7, LeO (spec_l2TakeHead.l0 k y0 y1 y2 y3 y4 y5 y6 y7) (spec_l2TakeHead.l0 (k + 1) y0 y1 y2 y3 y4 y5 y6 y7))
 | 0 => ⟨fun _ _ _ _ _ r h => by simp [spec_l2TakeHead.j0] at h, fun _ _ _ _ _ _ r h => by simp [spec_l2TakeHead.j1] at h, fun _ _ _ _ _ r h => by simp [spec_l2TakeHead.j3] at h, fun _ _ _ _ _ _ _ _ r h => by simp [spec_l2TakeHead.l0] at h⟩
 | k + 1 => by
  obtain ⟨ih0, ih1, ih2, ih3⟩ := spec_l2TakeHead.mono_l k; refine ⟨?_, ?_, ?_, ?_⟩
  ·intro y0 y1 y2 y3 y4; unfold spec_l2TakeHead.j0
   repeat' first
   | (with_reducible exact ih0 _ _ _ _ _)
   | (with_reducible exact ih1 _ _ _ _ _ _)
   | (with_reducible exact ih2 _ _ _ _ _)
   | (with_reducible exact ih3 _ _ _ _ _ _ _ _)
   | (with_reducible exact spec_l2Head.mono _ _ _)
   | (with_reducible exact LeO.refl _)
   | (with_reducible exact LeO.none _)
   | (with_reducible refine LeO.ite ?_ ?_)
   | (with_reducible refine LeO.bind ?_ (fun _ => ?_))
   | exact ih0 _ _ _ _ _
   | exact ih1 _ _ _ _ _ _
   | exact ih2 _ _ _ _ _
   | exact ih3 _ _ _ _ _ _ _ _
   | exact spec_l2Head.mono _ _ _
   | exact LeO.none _
   | refine LeO.ite ?_ ?_
   | refine LeO.bind ?_ (fun _ => ?_)
  ·intro y0 y1 y2 y3 y4 y5; unfold spec_l2TakeHead.j1
   repeat' first
   | (with_reducible exact ih0 _ _ _ _ _)
   | (with_reducible exact ih1 _ _ _ _ _ _)
   | (with_reducible exact ih2 _ _ _ _ _)
   | (with_reducible exact ih3 _ _ _ _ _ _ _ _)
   | (with_reducible exact spec_l2Head.mono _ _ _)
   | (with_reducible exact LeO.refl _)
   | (with_reducible exact LeO.none _)
   | (with_reducible refine LeO.ite ?_ ?_)
   | (with_reducible refine LeO.bind ?_ (fun _ => ?_))
   | exact ih0 _ _ _ _ _
   | exact ih1 _ _ _ _ _ _
   | exact ih2 _ _ _ _ _
   | exact ih3 _ _ _ _ _ _ _ _
   | exact spec_l2Head.mono _ _ _
   | exact LeO.none _
   | refine LeO.ite ?_ ?_
   | refine LeO.bind ?_ (fun _ => ?_)
  ·intro y0 y1 y2 y3 y4; unfold spec_l2TakeHead.j3
   repeat' first
   | (with_reducible exact ih0 _ _ _ _ _)
   | (with_reducible exact ih1 _ _ _ _ _ _)
   | (with_reducible exact ih2 _ _ _ _ _)
   | (with_reducible exact ih3 _ _ _ _ _ _ _ _)
   | (with_reducible exact spec_l2Head.mono _ _ _)
   | (with_reducible exact LeO.refl _)
   | (with_reducible exact LeO.none _)
   | (with_reducible refine LeO.ite ?_ ?_)
   | (with_reducible refine LeO.bind ?_ (fun _ => ?_))
   | exact ih0 _ _ _ _ _
   | exact ih1 _ _ _ _ _ _
   | exact ih2 _ _ _ _ _
   | exact ih3 _ _ _ _ _ _ _ _
   | exact spec_l2Head.mono _ _ _
   | exact LeO.none _
   | refine LeO.ite ?_ ?_
   | refine LeO.bind ?_ (fun _ => ?_)
  ·intro y0 y1 y2 y3 y4 y5 y6 y7; unfold spec_l2TakeHead.l0
   repeat' first
   | (with_reducible exact ih0 _ _ _ _ _)
   | (with_reducible exact ih1 _ _ _ _ _ _)
   | (with_reducible exact ih2 _ _ _ _ _)
   | (with_reducible exact ih3 _ _ _ _ _ _ _ _)
   | (with_reducible exact spec_l2Head.mono _ _ _)
   | (with_reducible exact LeO.refl _)
   | (with_reducible exact LeO.none _)
   | (with_reducible refine LeO.ite ?_ ?_)
   | (with_reducible refine LeO.bind ?_ (fun _ => ?_))
   | exact ih0 _ _ _ _ _
   | exact ih1 _ _ _ _ _ _
   | exact ih2 _ _ _ _ _
   | exact ih3 _ _ _ _ _ _ _ _
   | exact spec_l2Head.mono _ _ _
   | exact LeO.none _
   | refine LeO.ite ?_ ?_
   | refine LeO.bind ?_ (fun _ => ?_)
theorem spec_l2TakeHead.mono : ∀ a0 a1 k, LeO (spec_l2TakeHead.f k a0 a1) (spec_l2TakeHead.f (k + 1) a0 a1) := by
 intro a0 a1 k; obtain ⟨ih0, ih1, ih2, ih3⟩ := spec_l2TakeHead.mono_l k; unfold spec_l2TakeHead.f
 repeat' first
   | (with_reducible exact ih0 _ _ _ _ _)
   | (with_reducible exact ih1 _ _ _ _ _ _)
   | (with_reducible exact ih2 _ _ _ _ _)
   | (with_reducible exact ih3 _ _ _ _ _ _ _ _)
   | (with_reducible exact spec_l2Head.mono _ _ _)
   | (with_reducible exact LeO.refl _)
   | (with_reducible exact LeO.none _)
   | (with_reducible refine LeO.ite ?_ ?_)
   | (with_reducible refine LeO.bind ?_ (fun _ => ?_))
   | exact ih0 _ _ _ _ _
   | exact ih1 _ _ _ _ _ _
   | exact ih2 _ _ _ _ _
   | exact ih3 _ _ _ _ _ _ _ _
   | exact spec_l2Head.mono _ _ _
   | exact LeO.none _
   | refine LeO.ite ?_ ?_
   | refine LeO.bind ?_ (fun _ => ?_)
def spec_l2TakeHead.T22 : Bool × List (List Nat × List Nat) := (true, [([], []), ([0], [0]), ([1], [1]), ([2, 1], [2]), ([3], [3]), ([3], [3]), ([4, 5, 3, 3], [3, 4, 5]), ([3], [3]), ([3], [3]), ([3], [3]), ([9, 3], [3, 9]), ([3], [3]), ([10, 11, 3], [3, 10, 11]), ([7, 8, 12, 3], [3, 7, 8, 12]), ([6, 13, 3], [3, 6, 13]), ([3, 14], [3, 14])])
def spec_l2TakeHead.B22 : List Nat := [0, 1, 3, 7, 15, 15, 63, 15, 15, 15, 527, 15, 3599, 8079, 16383, 32767]
theorem spec_l2TakeHead.tab22 : rtab .any (opsOf Try.f70 22) = spec_l2TakeHead.T22 := by kernel_rfl
theorem spec_l2TakeHead.bits22 : waitsOk spec_l2TakeHead.T22.2 spec_l2TakeHead.B22 = true := by kernel_rfl
set_option maxHeartbeats 8000000 in
set_option maxRecDepth 100000 in
theorem spec_l2TakeHead.calls (k : Nat) (a0 : ByteArray) (a1 : Int) (r1 : Int) (r2 : Int) (r3 : Int) (r4 : Bool) (w : World) (h : spec_l2TakeHead.f k a0 a1 = some (r1, r2, r3, r4)) :
  Calls Try.prog 70 #[.string a0, .int .i64 a1] w fun e w' => e = .returned (.tuple #[.int .i64 r1, .int .i64 r2, .int .i64 r3, .bool r4]) ∧ Below w.heap.size w w' := by
 have HB := Aside0.mk (Below.refl w.heap.size w); have H : (if a1 ≥ (a0.size : Int) then (some (0, 0, 0, false)) else (if 0 ≤ a1 then (if a1 < (a0.size : Int) then (if (Int.tmod (wrap64 (bt a0 a1)) 32) = 24 then (spec_l2TakeHead.j0 k a0 a1 (wrap64 (Int.tdiv (wrap64 (bt a0 a1)) 32)) (Int.tmod (wrap64 (bt a0 a1)) 32) 1) else (if (Int.tmod (wrap64 (bt a0 a1)) 32) = 25 then (spec_l2TakeHead.j0 k a0 a1 (wrap64 (Int.tdiv (wrap64 (bt a0 a1)) 32)) (Int.tmod (wrap64 (bt a0 a1)) 32) 2) else (if (Int.tmod (wrap64 (bt a0 a1)) 32) = 26 then (spec_l2TakeHead.j0 k a0 a1 (wrap64 (Int.tdiv (wrap64 (bt a0 a1)) 32)) (Int.tmod (wrap64 (bt a0 a1)) 32) 4) else (spec_l2TakeHead.j0 k a0 a1 (wrap64 (Int.tdiv (wrap64 (bt a0 a1)) 32)) (Int.tmod (wrap64 (bt a0 a1)) 32) 0)))) else (none)) else (none))) = some (r1, r2, r3, r4) := h; clear h; by_cases c3 : a1 ≥ (a0.size : Int)
 ·rw [if_pos c3] at H; have c3b0 : decide ((a0.size : Int) ≤ a1) = true := decide_eq_true c3; clear c3; simp only [Option.some.injEq, Prod.mk.injEq] at H; obtain ⟨rfl, rfl, rfl, rfl⟩ := H
  go_enter Try.func70, Try.ntmps70
  go_wp2; refine bodyPost_ret (results_list (rs := [.tmp 4, .tmp 5, .tmp 6, .tmp 7]) rfl (by simp) (.tmp (.tmp (.tmp (.tmp .nil))))) rfl ?_; exact ⟨er_, bq_ HB⟩
 ·rw [if_neg c3] at H; have c3b0 : decide ((a0.size : Int) ≤ a1) = false := decide_eq_false c3; clear c3; by_cases c4 : 0 ≤ a1
  ·rw [if_pos c4] at H; have c4b0 : decide (0 ≤ a1) = true := decide_eq_true c4; clear c4; by_cases c5 : a1 < (a0.size : Int)
   ·rw [if_pos c5] at H; have c5b0 : decide (a1 < (a0.size : Int)) = true := decide_eq_true c5; clear c5; have HC8 := Aside0.mk H; clear H; have p6 : 0 ≤ (a1 : Int) := od_; have q6 : a1 < (a0.size : Int) := od_; have hx6 := bt_at a0 a1; replace p6 := eq_true p6; replace q6 := eq_true q6; have p7 : 0 ≤ (a1 : Int) := od_; have q7 : a1 < (a0.size : Int) := od_; have hx7 := bt_at a0 a1; replace p7 := eq_true p7; replace q7 := eq_true q7
    go_enter Try.func70, Try.ntmps70
    go_upto_block 0 with (fail)
    go_cut [10] (fun v10 wc => ∃ (kq : Nat) (x10_7 : Int), v10 = .int .i64 x10_7 ∧ Aside0 (spec_l2TakeHead.j0 kq a0 a1 (wrap64 (Int.tdiv (wrap64 (bt a0 a1)) 32)) (Int.tmod (wrap64 (bt a0 a1)) 32) x10_7 = some (r1, r2, r3, r4)) ∧ Aside0 (kq ≤ k) ∧ Aside0 (Below w.heap.size w wc))
    case first =>
     have H := HC8.out; clear HC8; by_cases c9 : (Int.tmod (wrap64 (bt a0 a1)) 32) = 24
     ·rw [if_pos c9] at H; have c9b0 : ((Int.tmod (wrap64 (bt a0 a1)) 32) == 24) = true := beq_iff_eq.mpr c9; have c9b1 : ((Int.tmod (wrap64 (bt a0 a1)) 32) != 24) = false := bne_eq_false_iff_eq.mpr c9; clear c9; (first | rw [c9b0] | (simp only [i64_w, i32_w]; rw [c9b0]) | skip); have H' := Aside0.mk H; clear H; go_wp2; go_meet
      case rel => exact ⟨_, (1), fs_, H', ⟨by first | omega | exact Nat.le_refl _⟩, ⟨bq_ HB⟩⟩
     ·rw [if_neg c9] at H; have c9b0 : ((Int.tmod (wrap64 (bt a0 a1)) 32) == 24) = false := beq_eq_false_iff_ne.mpr c9; have c9b1 : ((Int.tmod (wrap64 (bt a0 a1)) 32) != 24) = true := bne_iff_ne.mpr c9; (first | rw [c9b0] | (simp only [i64_w, i32_w]; rw [c9b0]) | skip); by_cases c10 : (Int.tmod (wrap64 (bt a0 a1)) 32) = 25
      ·rw [if_pos c10] at H; have c10b0 : ((Int.tmod (wrap64 (bt a0 a1)) 32) == 25) = true := beq_iff_eq.mpr c10; have c10b1 : ((Int.tmod (wrap64 (bt a0 a1)) 32) != 25) = false := bne_eq_false_iff_eq.mpr c10; clear c10; have H' := Aside0.mk H; clear H; go_wp2; go_meet
       case rel => exact ⟨_, (2), fs_, H', ⟨by first | omega | exact Nat.le_refl _⟩, ⟨bq_ HB⟩⟩
      ·rw [if_neg c10] at H; have c10b0 : ((Int.tmod (wrap64 (bt a0 a1)) 32) == 25) = false := beq_eq_false_iff_ne.mpr c10; have c10b1 : ((Int.tmod (wrap64 (bt a0 a1)) 32) != 25) = true := bne_iff_ne.mpr c10; by_cases c11 : (Int.tmod (wrap64 (bt a0 a1)) 32) = 26
       ·rw [if_pos c11] at H; have c11b0 : ((Int.tmod (wrap64 (bt a0 a1)) 32) == 26) = true := beq_iff_eq.mpr c11; have c11b1 : ((Int.tmod (wrap64 (bt a0 a1)) 32) != 26) = false := bne_eq_false_iff_eq.mpr c11; clear c11; have H' := Aside0.mk H; clear H; go_wp2; go_meet
        case rel => exact ⟨_, (4), fs_, H', ⟨by first | omega | exact Nat.le_refl _⟩, ⟨bq_ HB⟩⟩
       ·rw [if_neg c11] at H; have c11b0 : ((Int.tmod (wrap64 (bt a0 a1)) 32) == 26) = false := beq_eq_false_iff_ne.mpr c11; have c11b1 : ((Int.tmod (wrap64 (bt a0 a1)) 32) != 26) = true := bne_iff_ne.mpr c11; have H' := Aside0.mk H; clear H; go_wp2; go_meet
        case rel => exact ⟨_, (0), fs_, H', ⟨by first | omega | exact Nat.le_refl _⟩, ⟨bq_ HB⟩⟩
    case rest =>
     clear HC8; try clear c1
     try clear p2
     try clear c3
     try clear c3b0
     try clear c4
     try clear c4b0
     try clear c5
     try clear c5b0
     try clear p6
     try clear q6
     try clear hx6
     try clear c7
     try clear p7
     try clear q7
     try clear hx7
     try clear c9
     try clear c9b0
     try clear c9b1
     try clear c10
     try clear c10b0
     try clear c10b1
     try clear c11
     try clear c11b0
     try clear c11b1
     try clear p6
     try clear p7
     try clear q6
     try clear q7
     obtain ⟨kq, x10_7, rfl, HA, HJ7, HB⟩ := hcut; cases kq with
     | zero => exact absurd HA.out (by simp [spec_l2TakeHead.j0])
     | succ kj7 =>
      have H := HA.out; clear HA; simp only [spec_l2TakeHead.j0] at H; have HC12 := Aside0.mk H; clear H; go_upto_region 13 with (fail)
      go_cut [44] (fun v44 wc => ∃ (kq : Nat) (x44_11 : Bool), v44 = .bool x44_11 ∧ Aside0 (spec_l2TakeHead.j1 kq a0 a1 (wrap64 (Int.tdiv (wrap64 (bt a0 a1)) 32)) (Int.tmod (wrap64 (bt a0 a1)) 32) x10_7 x44_11 = some (r1, r2, r3, r4)) ∧ Aside0 (kq ≤ kj7) ∧ Aside0 (Below w.heap.size w wc))
      case first =>
       have H := HC12.out; clear HC12; by_cases c13 : (Int.tmod (wrap64 (bt a0 a1)) 32) > 26
       ·rw [if_pos c13] at H; have c13b0 : decide (26 < (Int.tmod (wrap64 (bt a0 a1)) 32)) = true := decide_eq_true c13; clear c13; (first | rw [c13b0] | (simp only [i64_w, i32_w]; rw [c13b0]) | skip); have H' := Aside0.mk H; clear H; go_wp2; go_meet
        case rel => exact ⟨_, (true), fs_, H', ⟨by have := HJ7.out; first | omega | exact Nat.le_refl _⟩, ⟨bq_ HB⟩⟩
       ·rw [if_neg c13] at H; have c13b0 : decide (26 < (Int.tmod (wrap64 (bt a0 a1)) 32)) = false := decide_eq_false c13; clear c13; (first | rw [c13b0] | (simp only [i64_w, i32_w]; rw [c13b0]) | skip); have H' := Aside0.mk H; clear H; go_wp2; go_meet
        case rel => exact ⟨_, (decide ((wrap64 ((wrap64 (a1 + 1)) + x10_7)) > (a0.size : Int))), fs_, H', ⟨by have := HJ7.out; first | omega | exact Nat.le_refl _⟩, ⟨bq_ HB⟩⟩
      case rest =>
       clear HC12; try clear c1
       try clear p2
       try clear c3
       try clear c3b0
       try clear c4
       try clear c4b0
       try clear c5
       try clear c5b0
       try clear p6
       try clear q6
       try clear hx6
       try clear c7
       try clear p7
       try clear q7
       try clear hx7
       try clear c9
       try clear c9b0
       try clear c9b1
       try clear c10
       try clear c10b0
       try clear c10b1
       try clear c11
       try clear c11b0
       try clear c11b1
       try clear c13
       try clear c13b0
       try clear p2
       try clear p6
       try clear p7
       try clear q6
       try clear q7
       obtain ⟨kq, x44_11, rfl, HA, HJ11, HB⟩ := hcut; cases kq with
       | zero => exact absurd HA.out (by simp [spec_l2TakeHead.j1])
       | succ kj11 =>
        have H := HA.out; clear HA; simp only [spec_l2TakeHead.j1] at H; by_cases c14 : x44_11 = true
        ·subst c14; have H1 : (some (0, 0, 0, false)) = some (r1, r2, r3, r4) := by rw [if_pos rfl] at H; exact H
         clear H; have H := H1; clear H1; simp only [Option.some.injEq, Prod.mk.injEq] at H; obtain ⟨rfl, rfl, rfl, rfl⟩ := H; go_wp2; refine bodyPost_ret (results_list (rs := [.tmp 4, .tmp 5, .tmp 6, .tmp 7]) rfl (by simp) (.tmp (.tmp (.tmp (.tmp .nil))))) rfl ?_; exact ⟨er_, bq_ HB⟩
        ·replace c14 := Bool.eq_false_iff.mpr c14; subst c14; have H1 : (if x10_7 > 0 then (if 0 ≤ (wrap64 (a1 + 1)) then (if (wrap64 (a1 + 1)) ≤ (wrap64 ((wrap64 (a1 + 1)) + x10_7)) then (if (wrap64 ((wrap64 (a1 + 1)) + x10_7)) ≤ (a0.size : Int) then (if (a0.extract ((wrap64 (a1 + 1)) : Int).toNat ((wrap64 ((wrap64 (a1 + 1)) + x10_7)) : Int).toNat).size ≤ 9223372036854775807 then ((some (bytesOf (a0.extract ((wrap64 (a1 + 1)) : Int).toNat ((wrap64 ((wrap64 (a1 + 1)) + x10_7)) : Int).toNat) : List Int)).bind fun y402 => (spec_l2TakeHead.l0 kj11 a0 a1 (wrap64 (Int.tdiv (wrap64 (bt a0 a1)) 32)) 0 x10_7 y402 (y402.length : Int) 0)) else (none)) else (none)) else (none)) else (none)) else (spec_l2TakeHead.j3 kj11 a0 a1 (wrap64 (Int.tdiv (wrap64 (bt a0 a1)) 32)) (Int.tmod (wrap64 (bt a0 a1)) 32) x10_7)) = some (r1, r2, r3, r4) := by rw [if_neg (show ¬ (false = true) by decide)] at H; exact H
         clear H; have H := H1; clear H1; have HC15 := Aside0.mk H; clear H
         go_upto_if 46 with (fail)
         go_cut [9] (fun v9 wc => ∃ (kq : Nat) (x9_14 : Int), v9 = .int .i64 x9_14 ∧ Aside0 (spec_l2TakeHead.j3 kq a0 a1 (wrap64 (Int.tdiv (wrap64 (bt a0 a1)) 32)) x9_14 x10_7 = some (r1, r2, r3, r4)) ∧ Aside0 (kq ≤ kj11) ∧ Aside0 (Below w.heap.size w wc))
         case first =>
          have H := HC15.out; clear HC15; by_cases c16 : x10_7 > 0
          ·rw [if_pos c16] at H; have c16b0 : decide (0 < x10_7) = true := decide_eq_true c16; clear c16; (first | rw [c16b0] | (simp only [i64_w, i32_w]; rw [c16b0]) | skip); obtain ⟨ji17, hji17⟩ : ∃ j_ : Int, (wrap64 (a1 + 1)) = j_ := ⟨_, rfl⟩
           replace H : (if 0 ≤ (ji17) then (if (ji17) ≤ (wrap64 ((ji17) + x10_7)) then (if (wrap64 ((ji17) + x10_7)) ≤ (a0.size : Int) then (if (a0.extract ((ji17) : Int).toNat ((wrap64 ((ji17) + x10_7)) : Int).toNat).size ≤ 9223372036854775807 then ((some (bytesOf (a0.extract ((ji17) : Int).toNat ((wrap64 ((ji17) + x10_7)) : Int).toNat) : List Int)).bind fun y402 => (spec_l2TakeHead.l0 kj11 a0 a1 (wrap64 (Int.tdiv (wrap64 (bt a0 a1)) 32)) 0 x10_7 y402 (y402.length : Int) 0)) else (none)) else (none)) else (none)) else (none)) = some (r1, r2, r3, r4) := by first | (rw [hji17] at H; exact H) | (simp only [hji17] at H ⊢; exact H)
           have hji17w : (IntKind.i64.wrap (a1 + 1)) = ji17 := (i64_w _).trans hji17; by_cases c18 : 0 ≤ (ji17)
           ·rw [if_pos c18] at H; have c18b0 := eq_true c18; have c18b1 : decide (0 ≤ (ji17)) = true := decide_eq_true c18; clear c18; by_cases c19 : (ji17) ≤ (wrap64 ((ji17) + x10_7))
            ·rw [if_pos c19] at H; have c19b0 := eq_true c19; have c19b1 : decide ((ji17) ≤ (wrap64 ((ji17) + x10_7))) = true := decide_eq_true c19; by_cases c20 : (wrap64 ((ji17) + x10_7)) ≤ (a0.size : Int)
             ·rw [if_pos c20] at H; have c20b0 := eq_true c20; have c20b1 : decide ((wrap64 ((ji17) + x10_7)) ≤ (a0.size : Int)) = true := decide_eq_true c20; by_cases c21 : (a0.extract ((ji17) : Int).toNat ((wrap64 ((ji17) + x10_7)) : Int).toNat).size ≤ 9223372036854775807
              ·rw [if_pos c21] at H; have c21b0 := eq_true c21; have c21b1 : decide ((a0.extract ((ji17) : Int).toNat ((wrap64 ((ji17) + x10_7)) : Int).toNat).size ≤ 9223372036854775807) = true := decide_eq_true c21; try have c21b2 : (9223372036854775807 < (a0.extract ((ji17) : Int).toNat ((wrap64 ((ji17) + x10_7)) : Int).toNat).size) = False := eq_false (Nat.not_lt.2 c21)
               obtain ⟨y402, hy402⟩ : ∃ y_ : List Int, y_ = (bytesOf (a0.extract ((ji17) : Int).toNat ((wrap64 ((ji17) + x10_7)) : Int).toNat)) := ⟨_, rfl⟩
               replace H : (spec_l2TakeHead.l0 kj11 a0 a1 (wrap64 (Int.tdiv (wrap64 (bt a0 a1)) 32)) 0 x10_7 y402 (y402.length : Int) 0) = some (r1, r2, r3, r4) := by first | (rw [hy402]; with_reducible exact H) | (have H2_ := (Option.bind_some _ _).symm.trans H; rw [hy402]; with_reducible exact H2_) | (have H2_ := (Option.bind_some _ _).symm.trans H; with_reducible exact H2_) | with_reducible exact H | (rw [hy402]; exact H) | exact H
               have Ny402 := Aside0.mk hy402; clear hy402; have H' := Aside0.mk H; clear H; go_wp2_with (first | ((with_reducible refine gate_dst (N := 55) rfl ?_); (try (refine gate_guard (by rfl) ?_; dsimp only)); refine Kd.V_conv _ 5 rfl (N' := 55) rfl 9 22 _ rfl (a0.extract ((ji17) : Int).toNat ((wrap64 ((ji17) + x10_7)) : Int).toNat) (by first | rfl | (go_simp; done) | (go_simp; rfl)) Try.underlying9 Try.underlying22 Try.underlying5 (od_) (ok := fun k_ => wc.heap.size ≤ k_) (Nat.le_refl _) (Below.refl _ _) (Nat.le_refl _) ?_; intro v403 w22 ho23 hb hg_; clear hg_; rw [← Ny402.out] at ho23; have n0_ := Aside0.mk (Kd.V_lower (Kd.V_mono (ok' := fun k_ => True) ho23 (fun k_ hk_ => trivial)) bz_); have n1_ := Aside0.mk (bs_ hb); clear HB; have HO404 := n0_; have HB := n1_; clear n0_ n1_; clear hb ho23; obtain ⟨Ao24, co24, eo24⟩ := Kd.V_slice HO404.out; subst eo24))
               go_loopg [9, 57] kj11 (fun kq v9 v57 w' => ∃ (x9_3 : Int) (x57_3 : Int), v9 = .int .i64 x9_3 ∧ v57 = .int .i64 x57_3 ∧ Aside0 (spec_l2TakeHead.l0 kq a0 a1 (wrap64 (Int.tdiv (wrap64 (bt a0 a1)) 32)) x9_3 x10_7 y402 (y402.length : Int) x57_3 = some (r1, r2, r3, r4)) ∧ Aside0 (kq ≤ kj11) ∧ Aside0 (Kd.V (Kd.int .u8) 5 w' w.heap.size (fun _ => True) (.slice Ao24 y402.length co24) y402) ∧ Aside0 (Below w.heap.size w w'))
               case atStart => exact ⟨(0), (0), fs_, fs_, H', ⟨Nat.le_refl _⟩, ⟨by (with_reducible repeat (first | apply Kd.V_alloc | apply Kd.V_drewN | apply Kd.V_drew)); exact HO404.out⟩, ⟨bq_ HB⟩⟩
               case round =>
                clear H'; try clear c1
                try clear c2
                try clear p2
                try clear c3
                try clear c3b0
                try clear c4
                try clear c4b0
                try clear c5
                try clear c5b0
                try clear p6
                try clear q6
                try clear hx6
                try clear c7
                try clear p7
                try clear q7
                try clear hx7
                try clear c9
                try clear c9b0
                try clear c9b1
                try clear c10
                try clear c10b0
                try clear c10b1
                try clear c11
                try clear c11b0
                try clear c11b1
                try clear c13
                try clear c13b0
                try clear c14
                try clear c16
                try clear c16b0
                try clear c18
                try clear c18b0
                try clear c18b1
                try clear c19
                try clear c19b0
                try clear c19b1
                try clear c20
                try clear c20b0
                try clear c20b1
                try clear c21
                try clear c21b0
                try clear c21b1
                try clear c21b2
                try clear p2
                try clear p6
                try clear p7
                try clear q6
                try clear q7
                obtain ⟨x9_3, x57_3, rfl, rfl, HA, HK3, HO_55, HB⟩ := hrel; cases gk with
                | zero => exact absurd HA.out (by simp [spec_l2TakeHead.l0])
                | succ k3 =>
                 have H := HA.out; clear HA; simp only [spec_l2TakeHead.l0] at H; by_cases c25 : x57_3 < (y402.length : Int)
                 ·rw [if_pos c25] at H; have c25b0 : decide (x57_3 < (y402.length : Int)) = true := decide_eq_true c25; clear c25; by_cases c26 : 0 ≤ x57_3
                  ·rw [if_pos c26] at H; have c26b0 : decide (0 ≤ x57_3) = true := decide_eq_true c26; clear c26; by_cases c27 : x57_3 < (y402.length : Int)
                   ·rw [if_pos c27] at H; have c27b0 : decide (x57_3 < (y402.length : Int)) = true := decide_eq_true c27; clear c27; have H' := Aside0.mk H; clear H; have p405 : 0 ≤ (x57_3 : Int) := od_; have q405 : x57_3 < (y402.length : Int) := od_; obtain ⟨ad405, e405, hx405_0⟩ := Kd.at_int (Kd.V_reads' HO_55.out).2.2 x57_3 p405 q405; cases e405; replace p405 := eq_true p405; replace q405 := eq_true q405; go_wp2; go_roundg k3
                    case measure => have := HJ7.out; have := HJ11.out; have := HK3.out; omega
                    case rel => exact ⟨(Go.bits .or .i64 (wrap64 (x9_3 * 256)) (wrap64 (rd y402 x57_3))), (wrap64 (x57_3 + 1)), fs_, fs_, H', ⟨by have := HJ7.out; have := HJ11.out; have := HK3.out; omega⟩, ⟨by (with_reducible repeat (first | apply Kd.V_alloc | apply Kd.V_drewN | apply Kd.V_drew)); exact HO_55.out⟩, ⟨bq_ HB⟩⟩
                   ·rw [if_neg c27] at H; exact no_ H
                  ·rw [if_neg c26] at H; exact no_ H
                 ·rw [if_neg c25] at H; have c25b0 : decide (x57_3 < (y402.length : Int)) = false := decide_eq_false c25; clear c25; have H' := Aside0.mk H; clear H; go_wp2; go_meet
                  case rel => exact ⟨_, (x9_3), fs_, H', ⟨by have := HJ7.out; have := HJ11.out; have := HK3.out; first | omega | exact Nat.le_refl _⟩, ⟨bq_ HB⟩⟩
              ·rw [if_neg c21] at H; exact no_ H
             ·rw [if_neg c20] at H; exact no_ H
            ·rw [if_neg c19] at H; exact no_ H
           ·rw [if_neg c18] at H; exact no_ H
          ·rw [if_neg c16] at H; have c16b0 : decide (0 < x10_7) = false := decide_eq_false c16; clear c16; (first | rw [c16b0] | (simp only [i64_w, i32_w]; rw [c16b0]) | skip); have H' := Aside0.mk H; clear H; go_wp2; go_meet
           case rel => exact ⟨_, ((Int.tmod (wrap64 (bt a0 a1)) 32)), fs_, H', ⟨by have := HJ7.out; have := HJ11.out; first | omega | exact Nat.le_refl _⟩, ⟨bq_ HB⟩⟩
         case rest =>
          clear HC15; try clear c1
          try clear c2
          try clear p2
          try clear c3
          try clear c3b0
          try clear c4
          try clear c4b0
          try clear p4
          try clear q4
          try clear hx4
          try clear c5
          try clear c5b0
          try clear p6
          try clear q6
          try clear hx6
          try clear c7
          try clear p7
          try clear q7
          try clear hx7
          try clear c9
          try clear c9b0
          try clear c9b1
          try clear c10
          try clear c10b0
          try clear c10b1
          try clear c11
          try clear c11b0
          try clear c11b1
          try clear c13
          try clear c13b0
          try clear c14
          try clear c16
          try clear c16b0
          try clear c18
          try clear c18b0
          try clear c18b1
          try clear c19
          try clear c19b0
          try clear c19b1
          try clear c20
          try clear c20b0
          try clear c20b1
          try clear c21
          try clear c21b0
          try clear c21b1
          try clear c21b2
          try clear c25
          try clear c25b0
          try clear c26
          try clear c26b0
          try clear c27
          try clear c27b0
          try clear hx405_0
          try clear p2
          try clear p405
          try clear p6
          try clear p7
          try clear q405
          try clear q6
          try clear q7
          obtain ⟨kq, x9_14, rfl, HA, HJ14, HB⟩ := hcut; cases kq with
          | zero => exact absurd HA.out (by simp [spec_l2TakeHead.j3])
          | succ kj14 =>
           have H := HA.out; clear HA; simp only [spec_l2TakeHead.j3] at H; replace H := Option.bind_eq_some_iff.mp H; obtain ⟨t406, A280, H⟩ := H; replace H : (if t406 = true then ((spec_l2Head.f kj14 (wrap64 (Int.tdiv (wrap64 (bt a0 a1)) 32)) x9_14).bind fun t407 => (if 0 ≤ a1 then (if a1 ≤ (wrap64 ((wrap64 (a1 + 1)) + x10_7)) then (if (wrap64 ((wrap64 (a1 + 1)) + x10_7)) ≤ (a0.size : Int) then (if t407.toList = (a0.extract (a1 : Int).toNat ((wrap64 ((wrap64 (a1 + 1)) + x10_7)) : Int).toNat).toList then (some ((wrap64 (Int.tdiv (wrap64 (bt a0 a1)) 32)), x9_14, wrap64 ((wrap64 (a1 + 1)) + x10_7), true)) else (some (0, 0, 0, false))) else (none)) else (none)) else (none))) else (some (0, 0, 0, false))) = some (r1, r2, r3, r4) := H; have A28 := Aside0.mk A280; clear A280; by_cases c29 : t406 = true
           ·subst c29; have H1 : ((spec_l2Head.f kj14 (wrap64 (Int.tdiv (wrap64 (bt a0 a1)) 32)) x9_14).bind fun t407 => (if 0 ≤ a1 then (if a1 ≤ (wrap64 ((wrap64 (a1 + 1)) + x10_7)) then (if (wrap64 ((wrap64 (a1 + 1)) + x10_7)) ≤ (a0.size : Int) then (if t407.toList = (a0.extract (a1 : Int).toNat ((wrap64 ((wrap64 (a1 + 1)) + x10_7)) : Int).toNat).toList then (some ((wrap64 (Int.tdiv (wrap64 (bt a0 a1)) 32)), x9_14, wrap64 ((wrap64 (a1 + 1)) + x10_7), true)) else (some (0, 0, 0, false))) else (none)) else (none)) else (none))) = some (r1, r2, r3, r4) := by rw [if_pos rfl] at H; exact H
            clear H; have H := H1; clear H1; replace H := Option.bind_eq_some_iff.mp H; obtain ⟨t407, A300, H⟩ := H; replace H : (if 0 ≤ a1 then (if a1 ≤ (wrap64 ((wrap64 (a1 + 1)) + x10_7)) then (if (wrap64 ((wrap64 (a1 + 1)) + x10_7)) ≤ (a0.size : Int) then (if t407.toList = (a0.extract (a1 : Int).toNat ((wrap64 ((wrap64 (a1 + 1)) + x10_7)) : Int).toNat).toList then (some ((wrap64 (Int.tdiv (wrap64 (bt a0 a1)) 32)), x9_14, wrap64 ((wrap64 (a1 + 1)) + x10_7), true)) else (some (0, 0, 0, false))) else (none)) else (none)) else (none)) = some (r1, r2, r3, r4) := H; have A30 := Aside0.mk A300; clear A300; by_cases c31 : 0 ≤ a1
            ·rw [if_pos c31] at H; have c31b0 := eq_true c31; have c31b1 : decide (0 ≤ a1) = true := decide_eq_true c31; clear c31; by_cases c32 : a1 ≤ (wrap64 ((wrap64 (a1 + 1)) + x10_7))
             ·rw [if_pos c32] at H; have c32b0 := eq_true c32; have c32b1 : decide (a1 ≤ (wrap64 ((wrap64 (a1 + 1)) + x10_7))) = true := decide_eq_true c32; by_cases c33 : (wrap64 ((wrap64 (a1 + 1)) + x10_7)) ≤ (a0.size : Int)
              ·rw [if_pos c33] at H; have c33b0 := eq_true c33; have c33b1 : decide ((wrap64 ((wrap64 (a1 + 1)) + x10_7)) ≤ (a0.size : Int)) = true := decide_eq_true c33; by_cases c34 : t407.toList = (a0.extract (a1 : Int).toNat ((wrap64 ((wrap64 (a1 + 1)) + x10_7)) : Int).toNat).toList
               ·rw [if_pos c34] at H; have c34b0 : (t407.toList == (a0.extract (a1 : Int).toNat ((wrap64 ((wrap64 (a1 + 1)) + x10_7)) : Int).toNat).toList) = true := beq_iff_eq.mpr c34; have c34b1 : (t407.toList != (a0.extract (a1 : Int).toNat ((wrap64 ((wrap64 (a1 + 1)) + x10_7)) : Int).toNat).toList) = false := bne_eq_false_iff_eq.mpr c34; clear c34; simp only [Option.some.injEq, Prod.mk.injEq] at H; obtain ⟨rfl, rfl, rfl, rfl⟩ := H; try go_wp2
                have n0_ := Aside0.mk (below_drew1 HB.out); clear HB; have HB := n0_; clear n0_; refine start_ (n := 16) (S := fun w' => True) (ds := []) #[false, false, false, false, false, false, false, false, false, false, false, false, false, false, false, false] (by kernel_rfl) rfl rfl trivial (fun hHeld => ?_); refine with_tabW spec_l2TakeHead.tab22 spec_l2TakeHead.bits22 (fun HT_ HW_ => ?_); generalize wc.drew = w35 at HB hHeld ⊢; refine pP 0 67 (mB 16 1) HT_ ?_
                refine oN 1 (some 68) (mB 16 3) HT_ (fun K hK => ?_); refine goes_ Try.func91 (by kernel_rfl) rfl #[.int .i64 x9_14] (by rfl) rfl rfl ma_ ?_; with_reducible refine (spec_l1Value.calls x9_14 true _ A28.out).mono ?_
                rintro e w' ⟨rfl, ⟨nd, rfl⟩⟩
                refine ⟨_, rfl, ?_⟩; refine hK.out _ _ trivial (fun hHeld => ?_); clear hK K; refine nO 68 ?_
                refine pP 2 69 (mB 16 7) HT_ ?_
                refine pP 3 70 (mB 16 15) HT_ ?_
                refine pP 4 71 (mB 16 31) HT_ ?_
                refine pP 5 72 (mB 16 63) HT_ ?_
                refine pP 7 74 (mB 16 191) HT_ ?_
                refine pP 8 75 (mB 16 447) HT_ ?_
                refine pP 9 76 (mB 16 959) HT_ ?_
                refine pP 10 77 (mB 16 1983) HT_ ?_
                refine pP 11 78 (mB 16 4031) HT_ ?_
                refine pP 12 79 (mB 16 8127) HT_ ?_
                refine pP 13 80 (mB 16 16319) HT_ ?_
                refine oN 6 (some 73) (mB 16 16383) HT_ (fun K hK => ?_); refine goes_ Try.func88 (by kernel_rfl) rfl #[.int .i64 (wrap64 (Int.tdiv (wrap64 (bt a0 a1)) 32)), .int .i64 x9_14] (by rfl) rfl rfl ma_ ?_; with_reducible refine (spec_l2Head.calls kj14 (wrap64 (Int.tdiv (wrap64 (bt a0 a1)) 32)) x9_14 t407 _ A30.out).mono ?_
                rintro e w36 ⟨rfl, hb⟩
                refine ⟨_, rfl, ?_⟩; have n0_ := Aside0.mk (bs_ hb); clear HB; have HB := n0_; clear n0_; (try clear hb); (try clear hb2); (try clear hk); (try clear hi); refine hK.out _ _ trivial (fun hHeld => ?_); clear hK K; refine nO 73 ?_
                refine pP 14 81 (mB 16 32767) HT_ ?_
                refine pP 15 82 (mB 16 65535) HT_ ?_
                refine done_ (done_of HT_.out (by kernel_rfl)) ?_; try go_wp2
                refine bodyPost_ret (results_list (rs := [.tmp 4, .tmp 5, .tmp 6, .tmp 7]) rfl (by simp) (.tmp (.tmp (.tmp (.tmp .nil))))) rfl ?_; exact ⟨er_, bq_ HB⟩
               ·rw [if_neg c34] at H; have c34b0 : (t407.toList == (a0.extract (a1 : Int).toNat ((wrap64 ((wrap64 (a1 + 1)) + x10_7)) : Int).toNat).toList) = false := beq_eq_false_iff_ne.mpr c34; have c34b1 : (t407.toList != (a0.extract (a1 : Int).toNat ((wrap64 ((wrap64 (a1 + 1)) + x10_7)) : Int).toNat).toList) = true := bne_iff_ne.mpr c34; simp only [Option.some.injEq, Prod.mk.injEq] at H; obtain ⟨rfl, rfl, rfl, rfl⟩ := H; try go_wp2
                have n0_ := Aside0.mk (below_drew1 HB.out); clear HB; have HB := n0_; clear n0_; refine start_ (n := 16) (S := fun w' => True) (ds := []) #[false, false, false, false, false, false, false, false, false, false, false, false, false, false, false, false] (by kernel_rfl) rfl rfl trivial (fun hHeld => ?_); refine with_tabW spec_l2TakeHead.tab22 spec_l2TakeHead.bits22 (fun HT_ HW_ => ?_); generalize wc.drew = w37 at HB hHeld ⊢; refine pP 0 67 (mB 16 1) HT_ ?_
                refine oN 1 (some 68) (mB 16 3) HT_ (fun K hK => ?_); refine goes_ Try.func91 (by kernel_rfl) rfl #[.int .i64 x9_14] (by rfl) rfl rfl ma_ ?_; with_reducible refine (spec_l1Value.calls x9_14 true _ A28.out).mono ?_
                rintro e w' ⟨rfl, ⟨nd, rfl⟩⟩
                refine ⟨_, rfl, ?_⟩; refine hK.out _ _ trivial (fun hHeld => ?_); clear hK K; refine nO 68 ?_
                refine pP 2 69 (mB 16 7) HT_ ?_
                refine pP 3 70 (mB 16 15) HT_ ?_
                refine pP 4 71 (mB 16 31) HT_ ?_
                refine pP 5 72 (mB 16 63) HT_ ?_
                refine pP 7 74 (mB 16 191) HT_ ?_
                refine pP 8 75 (mB 16 447) HT_ ?_
                refine pP 9 76 (mB 16 959) HT_ ?_
                refine pP 10 77 (mB 16 1983) HT_ ?_
                refine pP 11 78 (mB 16 4031) HT_ ?_
                refine pP 12 79 (mB 16 8127) HT_ ?_
                refine pP 13 80 (mB 16 16319) HT_ ?_
                refine oN 6 (some 73) (mB 16 16383) HT_ (fun K hK => ?_); refine goes_ Try.func88 (by kernel_rfl) rfl #[.int .i64 (wrap64 (Int.tdiv (wrap64 (bt a0 a1)) 32)), .int .i64 x9_14] (by rfl) rfl rfl ma_ ?_; with_reducible refine (spec_l2Head.calls kj14 (wrap64 (Int.tdiv (wrap64 (bt a0 a1)) 32)) x9_14 t407 _ A30.out).mono ?_
                rintro e w38 ⟨rfl, hb⟩
                refine ⟨_, rfl, ?_⟩; have n0_ := Aside0.mk (bs_ hb); clear HB; have HB := n0_; clear n0_; (try clear hb); (try clear hb2); (try clear hk); (try clear hi); refine hK.out _ _ trivial (fun hHeld => ?_); clear hK K; refine nO 73 ?_
                refine pP 14 81 (mB 16 32767) HT_ ?_
                refine pP 15 82 (mB 16 65535) HT_ ?_
                refine done_ (done_of HT_.out (by kernel_rfl)) ?_; try go_wp2
                refine bodyPost_ret (results_list (rs := [.tmp 4, .tmp 5, .tmp 6, .tmp 7]) rfl (by simp) (.tmp (.tmp (.tmp (.tmp .nil))))) rfl ?_; exact ⟨er_, bq_ HB⟩
              ·rw [if_neg c33] at H; exact no_ H
             ·rw [if_neg c32] at H; exact no_ H
            ·rw [if_neg c31] at H; exact no_ H
           ·replace c29 := Bool.eq_false_iff.mpr c29; subst c29; have H1 : (some (0, 0, 0, false)) = some (r1, r2, r3, r4) := by rw [if_neg (show ¬ (false = true) by decide)] at H; exact H
            clear H; have H := H1; clear H1; simp only [Option.some.injEq, Prod.mk.injEq] at H; obtain ⟨rfl, rfl, rfl, rfl⟩ := H; try go_wp2
            have n0_ := Aside0.mk (below_drew1 HB.out); clear HB; have HB := n0_; clear n0_; refine start_ (n := 16) (S := fun w' => True) (ds := []) #[false, false, false, false, false, false, false, false, false, false, false, false, false, false, false, false] (by kernel_rfl) rfl rfl trivial (fun hHeld => ?_); refine with_tabW spec_l2TakeHead.tab22 spec_l2TakeHead.bits22 (fun HT_ HW_ => ?_); generalize wc.drew = w39 at HB hHeld ⊢; refine pP 0 67 (mB 16 1) HT_ ?_
            refine oN 1 (some 68) (mB 16 3) HT_ (fun K hK => ?_); refine goes_ Try.func91 (by kernel_rfl) rfl #[.int .i64 x9_14] (by rfl) rfl rfl ma_ ?_; with_reducible refine (spec_l1Value.calls x9_14 false _ A28.out).mono ?_
            rintro e w' ⟨rfl, ⟨nd, rfl⟩⟩
            refine ⟨_, rfl, ?_⟩; refine hK.out _ _ trivial (fun hHeld => ?_); clear hK K; refine nO 68 ?_
            refine pP 2 69 (mB 16 7) HT_ ?_
            refine pP 3 70 (mB 16 15) HT_ ?_
            refine pQ 4 71 (mB 16 31) HT_ ?_
            refine pQ 5 72 (mB 16 63) HT_ ?_
            refine pQ 6 73 (mB 16 127) HT_ ?_
            refine pQ 7 74 (mB 16 255) HT_ ?_
            refine pQ 8 75 (mB 16 511) HT_ ?_
            refine pQ 9 76 (mB 16 1023) HT_ ?_
            refine pQ 10 77 (mB 16 2047) HT_ ?_
            refine pQ 11 78 (mB 16 4095) HT_ ?_
            refine pQ 12 79 (mB 16 8191) HT_ ?_
            refine pQ 13 80 (mB 16 16383) HT_ ?_
            refine pQ 14 81 (mB 16 32767) HT_ ?_
            refine pP 15 82 (mB 16 65535) HT_ ?_
            refine done_ (done_of HT_.out (by kernel_rfl)) ?_; try go_wp2
            refine bodyPost_ret (results_list (rs := [.tmp 4, .tmp 5, .tmp 6, .tmp 7]) rfl (by simp) (.tmp (.tmp (.tmp (.tmp .nil))))) rfl ?_; exact ⟨er_, bq_ HB⟩
   ·rw [if_neg c5] at H; exact no_ H
  ·rw [if_neg c4] at H; exact no_ H
end Go.Proofs.Ytaffjcaohbkmoaa.QFnBundles
