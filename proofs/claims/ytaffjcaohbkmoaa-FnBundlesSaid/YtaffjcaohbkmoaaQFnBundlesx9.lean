import Derived.Test.YtaffjcaohbkmoaaQFnBundlesx0
import Derived.Test.YtaffjcaohbkmoaaQFnBundlesx3
import Derived.Test.YtaffjcaohbkmoaaQFnBundlesx4
import Derived.Test.YtaffjcaohbkmoaaQFnBundlesx8
import Derived.Test.YtaffjcaohbkmoaaSq
namespace Go.Proofs.Ytaffjcaohbkmoaa.QFnBundles
open Go.RowKit Go.Proofs.YtaffjcaohbkmoaaW.PrintWords Go.Proofs.YtaffjcaohbkmoaaW.PrintLast Go.Proofs.YtaffjcaohbkmoaaW.PrintMore
attribute [local go_sem] max2_int min2_int max_two min_two max_three min_three max_four min_four   -- for this text's walks alone
set_option linter.unusedVariables false
set_option linter.unusedSimpArgs false
mutual
def impl_takeHead.j0 : Nat → ByteArray → Int → Int → Int → Int → Option (Int × Int × Int × Bool)
 | 0, _, _, _, _, _ => none
 | k + 1, x0, x1, x8, x9, x10 => if (wrap64 ((x0.size : Int) - (wrap64 (x1 + 1)))) < x10 then (some (0, 0, 0, false)) else (impl_takeHead.l0 k x0 (wrap64 (x1 + 1)) x8 x9 (wrap64 ((wrap64 (x1 + 1)) - 1)) x10 0)
def impl_takeHead.l0 : Nat → ByteArray → Int → Int → Int → Int → Int → Int → Option (Int × Int × Int × Bool)
 | 0, _, _, _, _, _, _, _ => none
 | k + 1, x0, x1, x8, x9, x11, x46, x47 => if x47 < x46 then (if 0 ≤ x1 then (if x1 < (x0.size : Int) then (impl_takeHead.l0 k x0 (wrap64 (x1 + 1)) x8 (wrap64 ((wrap64 (256 * x9)) + (wrap64 (bt x0 x1)))) x11 x46 (wrap64 (x47 + 1))) else (none)) else (none)) else ((impl_isValue.f x9).bind fun t310 => (if t310 = true then ((impl_head.f x8 x9).bind fun t311 => (if 0 ≤ x11 then (if x11 ≤ x1 then (if x1 ≤ (x0.size : Int) then (if t311.toList = (x0.extract (x11 : Int).toNat (x1 : Int).toNat).toList then (some (x8, x9, x1, true)) else (some (0, 0, 0, false))) else (none)) else (none)) else (none))) else (some (0, 0, 0, false))))
end
def impl_takeHead.f (k : Nat) (a0 : ByteArray) (a1 : Int) : Option (Int × Int × Int × Bool) := (impl_within.f a1 0 (wrap64 ((a0.size : Int) - 1))).bind fun t309 => (if t309 = true then (if 0 ≤ a1 then (if a1 < (a0.size : Int) then (if (Int.tmod (wrap64 (bt a0 a1)) 32) = 24 then (if 0 ≤ (wrap64 ((Int.tmod (wrap64 (bt a0 a1)) 32) - 24)) then (impl_takeHead.j0 k a0 a1 (wrap64 (Int.tdiv (wrap64 (bt a0 a1)) 32)) 0 (shl .i64 1 (wrap64 ((Int.tmod (wrap64 (bt a0 a1)) 32) - 24)))) else (none)) else (if (Int.tmod (wrap64 (bt a0 a1)) 32) = 25 then (if 0 ≤ (wrap64 ((Int.tmod (wrap64 (bt a0 a1)) 32) - 24)) then (impl_takeHead.j0 k a0 a1 (wrap64 (Int.tdiv (wrap64 (bt a0 a1)) 32)) 0 (shl .i64 1 (wrap64 ((Int.tmod (wrap64 (bt a0 a1)) 32) - 24)))) else (none)) else (if (Int.tmod (wrap64 (bt a0 a1)) 32) = 26 then (if 0 ≤ (wrap64 ((Int.tmod (wrap64 (bt a0 a1)) 32) - 24)) then (impl_takeHead.j0 k a0 a1 (wrap64 (Int.tdiv (wrap64 (bt a0 a1)) 32)) 0 (shl .i64 1 (wrap64 ((Int.tmod (wrap64 (bt a0 a1)) 32) - 24)))) else (none)) else (impl_takeHead.j0 k a0 a1 (wrap64 (Int.tdiv (wrap64 (bt a0 a1)) 32)) (Int.tmod (wrap64 (bt a0 a1)) 32) 0)))) else (none)) else (none)) else (some (0, 0, 0, false)))
theorem impl_takeHead.mono_l : ∀ k, (∀ y0 y1 y2 y3 y4, LeO (impl_takeHead.j0 k y0 y1 y2 y3 y4) (impl_takeHead.j0 (k + 1) y0 y1 y2 y3 y4)) ∧ (∀ y0 y1 y2 y3 y4 y5 y6, LeO (impl_takeHead.l0 k y0 y1 y2 y3 y4 y5 y6) (impl_takeHead.l0 (k + 1) y0 y1 y2 y3 y4 y5 y6))
 | 0 => ⟨fun _ _ _ _ _ r h => by simp [impl_takeHead.j0] at h, fun _ _ _ _ _ _ _ r h => by simp [impl_takeHead.l0] at h⟩
 | k + 1 => by
  obtain ⟨ih0, ih1⟩ := impl_takeHead.mono_l k; refine ⟨?_, ?_⟩
  ·intro y0 y1 y2 y3 y4; unfold impl_takeHead.j0
   repeat' first
   | (with_reducible exact ih0 _ _ _ _ _)
   | (with_reducible exact ih1 _ _ _ _ _ _ _)
   | (with_reducible exact LeO.refl _)
   | (with_reducible exact LeO.none _)
   | (with_reducible refine LeO.ite ?_ ?_)
   | (with_reducible refine LeO.bind ?_ (fun _ => ?_))
   | exact ih0 _ _ _ _ _
   | exact ih1 _ _ _ _ _ _ _
   | exact LeO.none _
   | refine LeO.ite ?_ ?_
   | refine LeO.bind ?_ (fun _ => ?_)
  ·intro y0 y1 y2 y3 y4 y5 y6; unfold impl_takeHead.l0
   repeat' first
   | (with_reducible exact ih0 _ _ _ _ _)
   | (with_reducible exact ih1 _ _ _ _ _ _ _)
   | (with_reducible exact LeO.refl _)
   | (with_reducible exact LeO.none _)
   | (with_reducible refine LeO.ite ?_ ?_)
   | (with_reducible refine LeO.bind ?_ (fun _ => ?_))
   | exact ih0 _ _ _ _ _
   | exact ih1 _ _ _ _ _ _ _
   | exact LeO.none _
   | refine LeO.ite ?_ ?_
   | refine LeO.bind ?_ (fun _ => ?_)
theorem impl_takeHead.mono : ∀ a0 a1 k, LeO (impl_takeHead.f k a0 a1) (impl_takeHead.f (k + 1) a0 a1) := by
 intro a0 a1 k; obtain ⟨ih0, ih1⟩ := impl_takeHead.mono_l k; unfold impl_takeHead.f
 repeat' first
   | (with_reducible exact ih0 _ _ _ _ _)
   | (with_reducible exact ih1 _ _ _ _ _ _ _)
   | (with_reducible exact LeO.refl _)
   | (with_reducible exact LeO.none _)
   | (with_reducible refine LeO.ite ?_ ?_)
   | (with_reducible refine LeO.bind ?_ (fun _ => ?_))
   | exact ih0 _ _ _ _ _
   | exact ih1 _ _ _ _ _ _ _
   | exact LeO.none _
   | refine LeO.ite ?_ ?_
   | refine LeO.bind ?_ (fun _ => ?_)
def impl_takeHead.T3 : Bool × List (List Nat × List Nat) := (true, [([], []), ([], []), ([0, 1], [0, 1]), ([2], [2]), ([3], [3]), ([], []), ([], []), ([5, 6], [5, 6]), ([7], [7]), ([8], [8]), ([4, 0, 1, 2, 3, 4], [4]), ([9, 10, 0, 1, 2, 3, 4, 5, 6, 7, 8, 9, 10], [9]), ([11, 0, 1, 2, 3, 4, 5, 6, 7, 8, 9, 10, 11], [])])
def impl_takeHead.B3 : List Nat := [0, 0, 3, 7, 15, 0, 0, 96, 224, 480, 31, 2047, 4095]
theorem impl_takeHead.tab3 : rtab .any (opsOf Try.f67 3) = impl_takeHead.T3 := by kernel_rfl
theorem impl_takeHead.bits3 : waitsOk impl_takeHead.T3.2 impl_takeHead.B3 = true := by kernel_rfl
def impl_takeHead.T19 : Bool × List (List Nat × List Nat) := (true, [([], []), ([0], [0]), ([1], [1]), ([2, 1], [2]), ([3], [3]), ([3], [3]), ([4, 5, 3, 3], [3, 4, 5]), ([3], [3]), ([3], [3]), ([3], [3]), ([7, 8, 9, 3], [3, 7, 8, 9]), ([6, 10, 3], [3, 6, 10]), ([3, 11], [3, 11])])
def impl_takeHead.B19 : List Nat := [0, 1, 3, 7, 15, 15, 63, 15, 15, 15, 911, 2047, 4095]
theorem impl_takeHead.tab19 : rtab .any (opsOf Try.f67 19) = impl_takeHead.T19 := by kernel_rfl
theorem impl_takeHead.bits19 : waitsOk impl_takeHead.T19.2 impl_takeHead.B19 = true := by kernel_rfl
set_option maxHeartbeats 8000000 in
set_option maxRecDepth 100000 in
theorem impl_takeHead.calls (k : Nat) (a0 : ByteArray) (a1 : Int) (r1 : Int) (r2 : Int) (r3 : Int) (r4 : Bool) (w : World) (h : impl_takeHead.f k a0 a1 = some (r1, r2, r3, r4)) :
  Calls Try.prog 67 #[.string a0, .int .i64 a1] w fun e w' => e = .returned (.tuple #[.int .i64 r1, .int .i64 r2, .int .i64 r3, .bool r4]) ∧ Below w.heap.size w w' := by
 have HB := Aside0.mk (Below.refl w.heap.size w); have H : ((impl_within.f a1 0 (wrap64 ((a0.size : Int) - 1))).bind fun t309 => (if t309 = true then (if 0 ≤ a1 then (if a1 < (a0.size : Int) then (if (Int.tmod (wrap64 (bt a0 a1)) 32) = 24 then (if 0 ≤ (wrap64 ((Int.tmod (wrap64 (bt a0 a1)) 32) - 24)) then (impl_takeHead.j0 k a0 a1 (wrap64 (Int.tdiv (wrap64 (bt a0 a1)) 32)) 0 (shl .i64 1 (wrap64 ((Int.tmod (wrap64 (bt a0 a1)) 32) - 24)))) else (none)) else (if (Int.tmod (wrap64 (bt a0 a1)) 32) = 25 then (if 0 ≤ (wrap64 ((Int.tmod (wrap64 (bt a0 a1)) 32) - 24)) then (impl_takeHead.j0 k a0 a1 (wrap64 (Int.tdiv (wrap64 (bt a0 a1)) 32)) 0 (shl .i64 1 (wrap64 ((Int.tmod (wrap64 (bt a0 a1)) 32) - 24)))) else (none)) else (if (Int.tmod (wrap64 (bt a0 a1)) 32) = 26 then (if 0 ≤ (wrap64 ((Int.tmod (wrap64 (bt a0 a1)) 32) - 24)) then (impl_takeHead.j0 k a0 a1 (wrap64 (Int.tdiv (wrap64 (bt a0 a1)) 32)) 0 (shl .i64 1 (wrap64 ((Int.tmod (wrap64 (bt a0 a1)) 32) - 24)))) else (none)) else (impl_takeHead.j0 k a0 a1 (wrap64 (Int.tdiv (wrap64 (bt a0 a1)) 32)) (Int.tmod (wrap64 (bt a0 a1)) 32) 0)))) else (none)) else (none)) else (some (0, 0, 0, false)))) = some (r1, r2, r3, r4) := h; clear h; replace H := Option.bind_eq_some_iff.mp H; obtain ⟨t309, A30, H⟩ := H; replace H : (if t309 = true then (if 0 ≤ a1 then (if a1 < (a0.size : Int) then (if (Int.tmod (wrap64 (bt a0 a1)) 32) = 24 then (if 0 ≤ (wrap64 ((Int.tmod (wrap64 (bt a0 a1)) 32) - 24)) then (impl_takeHead.j0 k a0 a1 (wrap64 (Int.tdiv (wrap64 (bt a0 a1)) 32)) 0 (shl .i64 1 (wrap64 ((Int.tmod (wrap64 (bt a0 a1)) 32) - 24)))) else (none)) else (if (Int.tmod (wrap64 (bt a0 a1)) 32) = 25 then (if 0 ≤ (wrap64 ((Int.tmod (wrap64 (bt a0 a1)) 32) - 24)) then (impl_takeHead.j0 k a0 a1 (wrap64 (Int.tdiv (wrap64 (bt a0 a1)) 32)) 0 (shl .i64 1 (wrap64 ((Int.tmod (wrap64 (bt a0 a1)) 32) - 24)))) else (none)) else (if (Int.tmod (wrap64 (bt a0 a1)) 32) = 26 then (if 0 ≤ (wrap64 ((Int.tmod (wrap64 (bt a0 a1)) 32) - 24)) then (impl_takeHead.j0 k a0 a1 (wrap64 (Int.tdiv (wrap64 (bt a0 a1)) 32)) 0 (shl .i64 1 (wrap64 ((Int.tmod (wrap64 (bt a0 a1)) 32) - 24)))) else (none)) else (impl_takeHead.j0 k a0 a1 (wrap64 (Int.tdiv (wrap64 (bt a0 a1)) 32)) (Int.tmod (wrap64 (bt a0 a1)) 32) 0)))) else (none)) else (none)) else (some (0, 0, 0, false))) = some (r1, r2, r3, r4) := H; have A3 := Aside0.mk A30; clear A30; by_cases c4 : t309 = true
 ·subst c4; have H1 : (if 0 ≤ a1 then (if a1 < (a0.size : Int) then (if (Int.tmod (wrap64 (bt a0 a1)) 32) = 24 then (if 0 ≤ (wrap64 ((Int.tmod (wrap64 (bt a0 a1)) 32) - 24)) then (impl_takeHead.j0 k a0 a1 (wrap64 (Int.tdiv (wrap64 (bt a0 a1)) 32)) 0 (shl .i64 1 (wrap64 ((Int.tmod (wrap64 (bt a0 a1)) 32) - 24)))) else (none)) else (if (Int.tmod (wrap64 (bt a0 a1)) 32) = 25 then (if 0 ≤ (wrap64 ((Int.tmod (wrap64 (bt a0 a1)) 32) - 24)) then (impl_takeHead.j0 k a0 a1 (wrap64 (Int.tdiv (wrap64 (bt a0 a1)) 32)) 0 (shl .i64 1 (wrap64 ((Int.tmod (wrap64 (bt a0 a1)) 32) - 24)))) else (none)) else (if (Int.tmod (wrap64 (bt a0 a1)) 32) = 26 then (if 0 ≤ (wrap64 ((Int.tmod (wrap64 (bt a0 a1)) 32) - 24)) then (impl_takeHead.j0 k a0 a1 (wrap64 (Int.tdiv (wrap64 (bt a0 a1)) 32)) 0 (shl .i64 1 (wrap64 ((Int.tmod (wrap64 (bt a0 a1)) 32) - 24)))) else (none)) else (impl_takeHead.j0 k a0 a1 (wrap64 (Int.tdiv (wrap64 (bt a0 a1)) 32)) (Int.tmod (wrap64 (bt a0 a1)) 32) 0)))) else (none)) else (none)) = some (r1, r2, r3, r4) := by rw [if_pos rfl] at H; exact H
  clear H; have H := H1; clear H1; by_cases c5 : 0 ≤ a1
  ·rw [if_pos c5] at H; have c5b0 : decide (0 ≤ a1) = true := decide_eq_true c5; clear c5; by_cases c6 : a1 < (a0.size : Int)
   ·rw [if_pos c6] at H; have c6b0 : decide (a1 < (a0.size : Int)) = true := decide_eq_true c6; clear c6; have HC9 := Aside0.mk H; clear H
    go_enter Try.func67, Try.ntmps67
    try go_wp2_with (first | ((with_reducible refine gate_callee (f := 36) rfl ?_); refine goesL_ (some 16) rfl rfl Try.func36 (by kernel_rfl) rfl #[.int .i64 a1, .int .i64 0, .int .i64 (wrap64 ((a0.size : Int) - 1))] rfl ma_ ?_; (with_reducible refine (impl_within.calls a1 0 (wrap64 ((a0.size : Int) - 1)) true _ A3.out).mono ?_); rintro e w' ⟨rfl, ⟨nd, rfl⟩⟩; refine ⟨_, rfl, ?_⟩))
    have n0_ := Aside0.mk (below_drew1 HB.out); clear HB; have HB := n0_; clear n0_; have p7 : 0 ≤ (a1 : Int) := od_; have q7 : a1 < (a0.size : Int) := od_; have hx7 := bt_at a0 a1; replace p7 := eq_true p7; replace q7 := eq_true q7; have p8 : 0 ≤ (a1 : Int) := od_; have q8 : a1 < (a0.size : Int) := od_; have hx8 := bt_at a0 a1; replace p8 := eq_true p8; replace q8 := eq_true q8; refine start_ (n := 13) (S := fun w' => True) (ds := []) #[false, false, false, false, false, false, false, false, false, false, false, false, false] (by kernel_rfl) rfl rfl trivial (fun hHeld => ?_); refine with_tabW impl_takeHead.tab3 impl_takeHead.bits3 (fun HT_ HW_ => ?_); generalize w.drew = w10 at HB hHeld ⊢; refine pP 0 18 (mB 13 1) HT_ ?_
    refine pP 1 19 (mB 13 3) HT_ ?_
    refine pP 5 23 (mB 13 35) HT_ ?_
    refine pP 6 24 (mB 13 99) HT_ ?_
    refine take_ (i := 2) (N := some 20) (v := ?_) (a' := ?_) #[true, true, true, false, false, true, true, false, false, false, false, false, false] rfl rfl (take_ofW HT_.out HW_.out (by kernel_rfl)) (fun _ _ _ h => h) (Or.inl ⟨by rfl, ?_⟩) hHeld ?_ ?_; rotate_left
    ·intro w' _; go_simp; with_reducible rfl
    rotate_left
    ·simp only [Act.put, List.setIfInBounds_toArray, List.set_cons_zero, List.set_cons_succ, i64_w, i32_w]; rfl
    refine pP 3 21 (mB 13 111) HT_ ?_
    refine pP 4 22 (mB 13 127) HT_ ?_
    refine pP 10 8 (mB 13 1151) HT_ ?_
    refine take_ (i := 7) (N := some 25) (v := ?_) (a' := ?_) #[true, true, true, true, true, true, true, true, false, false, true, false, false] rfl rfl (take_ofW HT_.out HW_.out (by kernel_rfl)) (fun _ _ _ h => h) (Or.inl ⟨by rfl, ?_⟩) hHeld ?_ ?_; rotate_left
    ·intro w' _; go_simp; with_reducible rfl
    rotate_left
    ·simp only [Act.put, List.setIfInBounds_toArray, List.set_cons_zero, List.set_cons_succ, i64_w, i32_w]; rfl
    refine pP 8 26 (mB 13 1535) HT_ ?_
    refine pP 9 27 (mB 13 2047) HT_ ?_
    refine pP 11 9 (mB 13 4095) HT_ ?_
    refine pP 12 10 (mB 13 8191) HT_ ?_
    refine done_ (done_of HT_.out (by kernel_rfl)) ?_
    go_upto_block 0 with (fail)
    go_cut [9, 10] (fun v9 v10 wc => ∃ (kq : Nat) (x9_8 : Int) (x10_8 : Int), v9 = .int .i64 x9_8 ∧ v10 = .int .i64 x10_8 ∧ Aside0 (impl_takeHead.j0 kq a0 a1 (wrap64 (Int.tdiv (wrap64 (bt a0 a1)) 32)) x9_8 x10_8 = some (r1, r2, r3, r4)) ∧ Aside0 (kq ≤ k) ∧ Aside0 (Below w.heap.size w wc))
    case first =>
     have H := HC9.out; clear HC9; by_cases c11 : (Int.tmod (wrap64 (bt a0 a1)) 32) = 24
     ·rw [if_pos c11] at H; have c11b0 : ((Int.tmod (wrap64 (bt a0 a1)) 32) == 24) = true := beq_iff_eq.mpr c11; have c11b1 : ((Int.tmod (wrap64 (bt a0 a1)) 32) != 24) = false := bne_eq_false_iff_eq.mpr c11; clear c11; (first | rw [c11b0] | (simp only [i64_w, i32_w]; rw [c11b0]) | skip); obtain ⟨ji12, hji12⟩ : ∃ j_ : Int, (wrap64 ((Int.tmod (wrap64 (bt a0 a1)) 32) - 24)) = j_ := ⟨_, rfl⟩
      replace H : (if 0 ≤ (ji12) then (impl_takeHead.j0 k a0 a1 (wrap64 (Int.tdiv (wrap64 (bt a0 a1)) 32)) 0 (shl .i64 1 (ji12))) else (none)) = some (r1, r2, r3, r4) := by first | (rw [hji12] at H; exact H) | (simp only [hji12] at H ⊢; exact H)
      have hji12w : (IntKind.i64.wrap ((Int.tmod (wrap64 (bt a0 a1)) 32) - 24)) = ji12 := (i64_w _).trans hji12; by_cases c13 : 0 ≤ (ji12)
      ·rw [if_pos c13] at H; have c13b0 := eq_true c13; have c13b1 : decide (0 ≤ (ji12)) = true := decide_eq_true c13; clear c13; obtain ⟨ji14, hji14⟩ : ∃ j_ : Int, (shl .i64 1 (ji12)) = j_ := ⟨_, rfl⟩
       replace H : (impl_takeHead.j0 k a0 a1 (wrap64 (Int.tdiv (wrap64 (bt a0 a1)) 32)) 0 ji14) = some (r1, r2, r3, r4) := by first | (rw [hji14] at H; exact H) | (simp only [hji14] at H ⊢; exact H)
       have hji14_ : (IntKind.i64.wrap (1 * 2 ^ min (ji12).toNat 64)) = ji14 := hji14; have hji14z : (ji12) ≤ 64 → (IntKind.i64.wrap (1 * 2 ^ (ji12).toNat)) = ji14 := shl_small hji14; have hji14u : (IntKind.i64.wrap (2 ^ min (ji12).toNat 64)) = ji14 := by have h_ := hji14_; rw [Int.one_mul] at h_; exact h_
       have hji14v : (ji12) ≤ 64 → (IntKind.i64.wrap (2 ^ (ji12).toNat)) = ji14 := fun hle_ => by have h_ := hji14z hle_; rw [Int.one_mul] at h_; exact h_
       have hji14y : (wrap64 (1 * 2 ^ min (ji12).toNat 64)) = ji14 := (i64_w _).symm.trans hji14_; have hji14x : (ji12) ≤ 64 → (wrap64 (1 * 2 ^ (ji12).toNat)) = ji14 := fun h_ => (i64_w _).symm.trans (hji14z h_)
       have H' := Aside0.mk H; clear H; go_wp2; go_meet
       case rel => exact ⟨_, (0), (ji14), fs_, (by first | rfl | (simp; done) | (simp only [← hji14] <;> (first | rfl | simp)) | (simp [*]; done)), H', ⟨by first | omega | exact Nat.le_refl _⟩, ⟨bq_ HB⟩⟩
      ·rw [if_neg c13] at H; exact no_ H
     ·rw [if_neg c11] at H; have c11b0 : ((Int.tmod (wrap64 (bt a0 a1)) 32) == 24) = false := beq_eq_false_iff_ne.mpr c11; have c11b1 : ((Int.tmod (wrap64 (bt a0 a1)) 32) != 24) = true := bne_iff_ne.mpr c11; (first | rw [c11b0] | (simp only [i64_w, i32_w]; rw [c11b0]) | skip); by_cases c15 : (Int.tmod (wrap64 (bt a0 a1)) 32) = 25
      ·rw [if_pos c15] at H; have c15b0 : ((Int.tmod (wrap64 (bt a0 a1)) 32) == 25) = true := beq_iff_eq.mpr c15; have c15b1 : ((Int.tmod (wrap64 (bt a0 a1)) 32) != 25) = false := bne_eq_false_iff_eq.mpr c15; clear c15; obtain ⟨ji16, hji16⟩ : ∃ j_ : Int, (wrap64 ((Int.tmod (wrap64 (bt a0 a1)) 32) - 24)) = j_ := ⟨_, rfl⟩
       replace H : (if 0 ≤ (ji16) then (impl_takeHead.j0 k a0 a1 (wrap64 (Int.tdiv (wrap64 (bt a0 a1)) 32)) 0 (shl .i64 1 (ji16))) else (none)) = some (r1, r2, r3, r4) := by first | (rw [hji16] at H; exact H) | (simp only [hji16] at H ⊢; exact H)
       have hji16w : (IntKind.i64.wrap ((Int.tmod (wrap64 (bt a0 a1)) 32) - 24)) = ji16 := (i64_w _).trans hji16; by_cases c17 : 0 ≤ (ji16)
       ·rw [if_pos c17] at H; have c17b0 := eq_true c17; have c17b1 : decide (0 ≤ (ji16)) = true := decide_eq_true c17; clear c17; obtain ⟨ji18, hji18⟩ : ∃ j_ : Int, (shl .i64 1 (ji16)) = j_ := ⟨_, rfl⟩
        replace H : (impl_takeHead.j0 k a0 a1 (wrap64 (Int.tdiv (wrap64 (bt a0 a1)) 32)) 0 ji18) = some (r1, r2, r3, r4) := by first | (rw [hji18] at H; exact H) | (simp only [hji18] at H ⊢; exact H)
        have hji18_ : (IntKind.i64.wrap (1 * 2 ^ min (ji16).toNat 64)) = ji18 := hji18; have hji18z : (ji16) ≤ 64 → (IntKind.i64.wrap (1 * 2 ^ (ji16).toNat)) = ji18 := shl_small hji18; have hji18u : (IntKind.i64.wrap (2 ^ min (ji16).toNat 64)) = ji18 := by have h_ := hji18_; rw [Int.one_mul] at h_; exact h_
        have hji18v : (ji16) ≤ 64 → (IntKind.i64.wrap (2 ^ (ji16).toNat)) = ji18 := fun hle_ => by have h_ := hji18z hle_; rw [Int.one_mul] at h_; exact h_
        have hji18y : (wrap64 (1 * 2 ^ min (ji16).toNat 64)) = ji18 := (i64_w _).symm.trans hji18_; have hji18x : (ji16) ≤ 64 → (wrap64 (1 * 2 ^ (ji16).toNat)) = ji18 := fun h_ => (i64_w _).symm.trans (hji18z h_)
        have H' := Aside0.mk H; clear H; go_wp2; go_meet
        case rel => exact ⟨_, (0), (ji18), fs_, (by first | rfl | (simp; done) | (simp only [← hji18] <;> (first | rfl | simp)) | (simp [*]; done)), H', ⟨by first | omega | exact Nat.le_refl _⟩, ⟨bq_ HB⟩⟩
       ·rw [if_neg c17] at H; exact no_ H
      ·rw [if_neg c15] at H; have c15b0 : ((Int.tmod (wrap64 (bt a0 a1)) 32) == 25) = false := beq_eq_false_iff_ne.mpr c15; have c15b1 : ((Int.tmod (wrap64 (bt a0 a1)) 32) != 25) = true := bne_iff_ne.mpr c15; by_cases c19 : (Int.tmod (wrap64 (bt a0 a1)) 32) = 26
       ·rw [if_pos c19] at H; have c19b0 : ((Int.tmod (wrap64 (bt a0 a1)) 32) == 26) = true := beq_iff_eq.mpr c19; have c19b1 : ((Int.tmod (wrap64 (bt a0 a1)) 32) != 26) = false := bne_eq_false_iff_eq.mpr c19; clear c19; obtain ⟨ji20, hji20⟩ : ∃ j_ : Int, (wrap64 ((Int.tmod (wrap64 (bt a0 a1)) 32) - 24)) = j_ := ⟨_, rfl⟩
        replace H : (if 0 ≤ (ji20) then (impl_takeHead.j0 k a0 a1 (wrap64 (Int.tdiv (wrap64 (bt a0 a1)) 32)) 0 (shl .i64 1 (ji20))) else (none)) = some (r1, r2, r3, r4) := by first | (rw [hji20] at H; exact H) | (simp only [hji20] at H ⊢; exact H)
        have hji20w : (IntKind.i64.wrap ((Int.tmod (wrap64 (bt a0 a1)) 32) - 24)) = ji20 := (i64_w _).trans hji20; by_cases c21 : 0 ≤ (ji20)
        ·rw [if_pos c21] at H; have c21b0 := eq_true c21; have c21b1 : decide (0 ≤ (ji20)) = true := decide_eq_true c21; clear c21; obtain ⟨ji22, hji22⟩ : ∃ j_ : Int, (shl .i64 1 (ji20)) = j_ := ⟨_, rfl⟩
         replace H : (impl_takeHead.j0 k a0 a1 (wrap64 (Int.tdiv (wrap64 (bt a0 a1)) 32)) 0 ji22) = some (r1, r2, r3, r4) := by first | (rw [hji22] at H; exact H) | (simp only [hji22] at H ⊢; exact H)
         have hji22_ : (IntKind.i64.wrap (1 * 2 ^ min (ji20).toNat 64)) = ji22 := hji22; have hji22z : (ji20) ≤ 64 → (IntKind.i64.wrap (1 * 2 ^ (ji20).toNat)) = ji22 := shl_small hji22; have hji22u : (IntKind.i64.wrap (2 ^ min (ji20).toNat 64)) = ji22 := by have h_ := hji22_; rw [Int.one_mul] at h_; exact h_
         have hji22v : (ji20) ≤ 64 → (IntKind.i64.wrap (2 ^ (ji20).toNat)) = ji22 := fun hle_ => by have h_ := hji22z hle_; rw [Int.one_mul] at h_; exact h_
         have hji22y : (wrap64 (1 * 2 ^ min (ji20).toNat 64)) = ji22 := (i64_w _).symm.trans hji22_; have hji22x : (ji20) ≤ 64 → (wrap64 (1 * 2 ^ (ji20).toNat)) = ji22 := fun h_ => (i64_w _).symm.trans (hji22z h_)
         have H' := Aside0.mk H; clear H; go_wp2; go_meet
         case rel => exact ⟨_, (0), (ji22), fs_, (by first | rfl | (simp; done) | (simp only [← hji22] <;> (first | rfl | simp)) | (simp [*]; done)), H', ⟨by first | omega | exact Nat.le_refl _⟩, ⟨bq_ HB⟩⟩
        ·rw [if_neg c21] at H; exact no_ H
       ·rw [if_neg c19] at H; have c19b0 : ((Int.tmod (wrap64 (bt a0 a1)) 32) == 26) = false := beq_eq_false_iff_ne.mpr c19; have c19b1 : ((Int.tmod (wrap64 (bt a0 a1)) 32) != 26) = true := bne_iff_ne.mpr c19; have H' := Aside0.mk H; clear H; go_wp2; go_meet
        case rel => exact ⟨_, (Int.tmod (wrap64 (bt a0 a1)) 32), (0), fs_, fs_, H', ⟨by first | omega | exact Nat.le_refl _⟩, ⟨bq_ HB⟩⟩
    case rest =>
     clear HC9; try clear c1
     try clear c2
     try clear p2
     try clear c3
     try clear c4
     try clear c5
     try clear c5b0
     try clear c6
     try clear c6b0
     try clear p6
     try clear p7
     try clear q7
     try clear hx7
     try clear p8
     try clear q8
     try clear hx8
     try clear c11
     try clear c11b0
     try clear c11b1
     try clear c13
     try clear c13b0
     try clear c13b1
     try clear c15
     try clear c15b0
     try clear c15b1
     try clear c17
     try clear c17b0
     try clear c17b1
     try clear c19
     try clear c19b0
     try clear c19b1
     try clear c21
     try clear c21b0
     try clear c21b1
     try clear p7
     try clear p8
     try clear q7
     try clear q8
     obtain ⟨kq, x9_8, x10_8, rfl, rfl, HA, HJ8, HB⟩ := hcut; cases kq with
     | zero => exact absurd HA.out (by simp [impl_takeHead.j0])
     | succ kj8 =>
      have H := HA.out; clear HA; simp only [impl_takeHead.j0] at H; by_cases c23 : (wrap64 ((a0.size : Int) - (wrap64 (a1 + 1)))) < x10_8
      ·rw [if_pos c23] at H; have c23b0 : decide ((wrap64 ((a0.size : Int) - (wrap64 (a1 + 1)))) < x10_8) = true := decide_eq_true c23; clear c23; simp only [Option.some.injEq, Prod.mk.injEq] at H; obtain ⟨rfl, rfl, rfl, rfl⟩ := H; go_wp2; refine bodyPost_ret (results_list (rs := [.tmp 4, .tmp 5, .tmp 6, .tmp 7]) rfl (by simp) (.tmp (.tmp (.tmp (.tmp .nil))))) rfl ?_; exact ⟨er_, bq_ HB⟩
      ·rw [if_neg c23] at H; have c23b0 : decide ((wrap64 ((a0.size : Int) - (wrap64 (a1 + 1)))) < x10_8) = false := decide_eq_false c23; clear c23; have H' := Aside0.mk H; clear H; go_wp2
       go_loopg [1, 9, 47] kj8 (fun kq v1 v9 v47 w' => ∃ (x1_2 : Int) (x9_2 : Int) (x47_2 : Int), v1 = .int .i64 x1_2 ∧ v9 = .int .i64 x9_2 ∧ v47 = .int .i64 x47_2 ∧ Aside0 (impl_takeHead.l0 kq a0 x1_2 (wrap64 (Int.tdiv (wrap64 (bt a0 a1)) 32)) x9_2 (wrap64 ((wrap64 (a1 + 1)) - 1)) x10_8 x47_2 = some (r1, r2, r3, r4)) ∧ Aside0 (kq ≤ kj8) ∧ Aside0 (Below w.heap.size w w'))
       case atStart => exact ⟨(wrap64 (a1 + 1)), (x9_8), (0), fs_, fs_, fs_, H', ⟨Nat.le_refl _⟩, ⟨bq_ HB⟩⟩
       case round =>
        clear H'; try clear c1
        try clear c2
        try clear p2
        try clear c3
        try clear c4
        try clear c5
        try clear c5b0
        try clear c6
        try clear c6b0
        try clear p6
        try clear p7
        try clear q7
        try clear hx7
        try clear p8
        try clear q8
        try clear hx8
        try clear c11
        try clear c11b0
        try clear c11b1
        try clear c13
        try clear c13b0
        try clear c13b1
        try clear c15
        try clear c15b0
        try clear c15b1
        try clear c17
        try clear c17b0
        try clear c17b1
        try clear c19
        try clear c19b0
        try clear c19b1
        try clear c21
        try clear c21b0
        try clear c21b1
        try clear c23
        try clear c23b0
        try clear p2
        try clear p6
        try clear p7
        try clear p8
        try clear q7
        try clear q8
        obtain ⟨x1_2, x9_2, x47_2, rfl, rfl, rfl, HA, HK2, HB⟩ := hrel; cases gk with
        | zero => exact absurd HA.out (by simp [impl_takeHead.l0])
        | succ k2 =>
         have H := HA.out; clear HA; simp only [impl_takeHead.l0] at H; by_cases c24 : x47_2 < x10_8
         ·rw [if_pos c24] at H; have c24b0 : decide (x47_2 < x10_8) = true := decide_eq_true c24; clear c24; by_cases c25 : 0 ≤ x1_2
          ·rw [if_pos c25] at H; have c25b0 : decide (0 ≤ x1_2) = true := decide_eq_true c25; clear c25; by_cases c26 : x1_2 < (a0.size : Int)
           ·rw [if_pos c26] at H; have c26b0 : decide (x1_2 < (a0.size : Int)) = true := decide_eq_true c26; clear c26; have H' := Aside0.mk H; clear H; have p27 : 0 ≤ (x1_2 : Int) := od_; have q27 : x1_2 < (a0.size : Int) := od_; have hx27 := bt_at a0 x1_2; replace p27 := eq_true p27; replace q27 := eq_true q27; go_wp2; go_roundg k2
            case measure => have := HJ8.out; have := HK2.out; omega
            case rel => exact ⟨(wrap64 (x1_2 + 1)), (wrap64 ((wrap64 (256 * x9_2)) + (wrap64 (bt a0 x1_2)))), (wrap64 (x47_2 + 1)), fs_, fs_, fs_, H', ⟨by have := HJ8.out; have := HK2.out; omega⟩, ⟨bq_ HB⟩⟩
           ·rw [if_neg c26] at H; exact no_ H
          ·rw [if_neg c25] at H; exact no_ H
         ·rw [if_neg c24] at H; have c24b0 : decide (x47_2 < x10_8) = false := decide_eq_false c24; clear c24; replace H := Option.bind_eq_some_iff.mp H; obtain ⟨t310, A280, H⟩ := H; replace H : (if t310 = true then ((impl_head.f (wrap64 (Int.tdiv (wrap64 (bt a0 a1)) 32)) x9_2).bind fun t311 => (if 0 ≤ (wrap64 ((wrap64 (a1 + 1)) - 1)) then (if (wrap64 ((wrap64 (a1 + 1)) - 1)) ≤ x1_2 then (if x1_2 ≤ (a0.size : Int) then (if t311.toList = (a0.extract ((wrap64 ((wrap64 (a1 + 1)) - 1)) : Int).toNat (x1_2 : Int).toNat).toList then (some ((wrap64 (Int.tdiv (wrap64 (bt a0 a1)) 32)), x9_2, x1_2, true)) else (some (0, 0, 0, false))) else (none)) else (none)) else (none))) else (some (0, 0, 0, false))) = some (r1, r2, r3, r4) := H; have A28 := Aside0.mk A280; clear A280; by_cases c29 : t310 = true
          ·subst c29; have H1 : ((impl_head.f (wrap64 (Int.tdiv (wrap64 (bt a0 a1)) 32)) x9_2).bind fun t311 => (if 0 ≤ (wrap64 ((wrap64 (a1 + 1)) - 1)) then (if (wrap64 ((wrap64 (a1 + 1)) - 1)) ≤ x1_2 then (if x1_2 ≤ (a0.size : Int) then (if t311.toList = (a0.extract ((wrap64 ((wrap64 (a1 + 1)) - 1)) : Int).toNat (x1_2 : Int).toNat).toList then (some ((wrap64 (Int.tdiv (wrap64 (bt a0 a1)) 32)), x9_2, x1_2, true)) else (some (0, 0, 0, false))) else (none)) else (none)) else (none))) = some (r1, r2, r3, r4) := by rw [if_pos rfl] at H; exact H
           clear H; have H := H1; clear H1; replace H := Option.bind_eq_some_iff.mp H; obtain ⟨t311, A300, H⟩ := H; replace H : (if 0 ≤ (wrap64 ((wrap64 (a1 + 1)) - 1)) then (if (wrap64 ((wrap64 (a1 + 1)) - 1)) ≤ x1_2 then (if x1_2 ≤ (a0.size : Int) then (if t311.toList = (a0.extract ((wrap64 ((wrap64 (a1 + 1)) - 1)) : Int).toNat (x1_2 : Int).toNat).toList then (some ((wrap64 (Int.tdiv (wrap64 (bt a0 a1)) 32)), x9_2, x1_2, true)) else (some (0, 0, 0, false))) else (none)) else (none)) else (none)) = some (r1, r2, r3, r4) := H; have A30 := Aside0.mk A300; clear A300; obtain ⟨ji31, hji31⟩ : ∃ j_ : Int, (wrap64 ((wrap64 (a1 + 1)) - 1)) = j_ := ⟨_, rfl⟩
           replace H : (if 0 ≤ (ji31) then (if (ji31) ≤ x1_2 then (if x1_2 ≤ (a0.size : Int) then (if t311.toList = (a0.extract ((ji31) : Int).toNat (x1_2 : Int).toNat).toList then (some ((wrap64 (Int.tdiv (wrap64 (bt a0 a1)) 32)), x9_2, x1_2, true)) else (some (0, 0, 0, false))) else (none)) else (none)) else (none)) = some (r1, r2, r3, r4) := by first | (rw [hji31] at H; exact H) | (simp only [hji31] at H ⊢; exact H)
           (try rw [hji31] at A28); (try rw [hji31] at A30); have hji31w : (IntKind.i64.wrap ((wrap64 (a1 + 1)) - 1)) = ji31 := (i64_w _).trans hji31; by_cases c32 : 0 ≤ (ji31)
           ·rw [if_pos c32] at H; have c32b0 := eq_true c32; have c32b1 : decide (0 ≤ (ji31)) = true := decide_eq_true c32; clear c32; by_cases c33 : (ji31) ≤ x1_2
            ·rw [if_pos c33] at H; have c33b0 := eq_true c33; have c33b1 : decide ((ji31) ≤ x1_2) = true := decide_eq_true c33; clear c33; by_cases c34 : x1_2 ≤ (a0.size : Int)
             ·rw [if_pos c34] at H; have c34b0 := eq_true c34; have c34b1 : decide (x1_2 ≤ (a0.size : Int)) = true := decide_eq_true c34; clear c34; by_cases c35 : t311.toList = (a0.extract ((ji31) : Int).toNat (x1_2 : Int).toNat).toList
              ·rw [if_pos c35] at H; have c35b0 : (t311.toList == (a0.extract ((ji31) : Int).toNat (x1_2 : Int).toNat).toList) = true := beq_iff_eq.mpr c35; have c35b1 : (t311.toList != (a0.extract ((ji31) : Int).toNat (x1_2 : Int).toNat).toList) = false := bne_eq_false_iff_eq.mpr c35; clear c35; simp only [Option.some.injEq, Prod.mk.injEq] at H; obtain ⟨rfl, rfl, rfl, rfl⟩ := H; try go_wp2
               have n0_ := Aside0.mk (below_drew1 HB.out); clear HB; have HB := n0_; clear n0_; refine start_ (n := 13) (S := fun w' => True) (ds := []) #[false, false, false, false, false, false, false, false, false, false, false, false, false] (by kernel_rfl) rfl rfl trivial (fun hHeld => ?_); refine with_tabW impl_takeHead.tab19 impl_takeHead.bits19 (fun HT_ HW_ => ?_); generalize wr.drew = w36 at HB hHeld ⊢; refine pP 0 59 (mB 13 1) HT_ ?_
               refine oN 1 (some 60) (mB 13 3) HT_ (fun K hK => ?_); refine goes_ Try.func89 (by kernel_rfl) rfl #[.int .i64 x9_2] (by rfl) rfl rfl ma_ ?_; with_reducible refine (impl_isValue.calls x9_2 true _ A28.out).mono ?_
               rintro e w' ⟨rfl, ⟨nd, rfl⟩⟩
               refine ⟨_, rfl, ?_⟩; refine hK.out _ _ trivial (fun hHeld => ?_); clear hK K; refine nO 60 ?_
               refine pP 2 61 (mB 13 7) HT_ ?_
               refine pP 3 62 (mB 13 15) HT_ ?_
               refine pP 4 63 (mB 13 31) HT_ ?_
               refine pP 5 64 (mB 13 63) HT_ ?_
               refine pP 7 66 (mB 13 191) HT_ ?_
               refine pP 8 67 (mB 13 447) HT_ ?_
               refine pP 9 68 (mB 13 959) HT_ ?_
               refine pP 10 69 (mB 13 1983) HT_ ?_
               refine oN 6 (some 65) (mB 13 2047) HT_ (fun K hK => ?_); refine goes_ Try.func64 (by kernel_rfl) rfl #[.int .i64 (wrap64 (Int.tdiv (wrap64 (bt a0 a1)) 32)), .int .i64 x9_2] (by rfl) rfl rfl ma_ ?_; with_reducible refine (impl_head.calls (wrap64 (Int.tdiv (wrap64 (bt a0 a1)) 32)) x9_2 t311 _ A30.out).mono ?_
               rintro e w37 ⟨rfl, hb⟩
               refine ⟨_, rfl, ?_⟩; have n0_ := Aside0.mk (bs_ hb); clear HB; have HB := n0_; clear n0_; (try clear hb); (try clear hb2); (try clear hk); (try clear hi); refine hK.out _ _ trivial (fun hHeld => ?_); clear hK K; refine nO 65 ?_
               refine pP 11 70 (mB 13 4095) HT_ ?_
               refine pP 12 71 (mB 13 8191) HT_ ?_
               refine done_ (done_of HT_.out (by kernel_rfl)) ?_; try go_wp2
               refine bodyPost_ret (results_list (rs := [.tmp 4, .tmp 5, .tmp 6, .tmp 7]) rfl (by simp) (.tmp (.tmp (.tmp (.tmp .nil))))) rfl ?_; exact ⟨by first | rfl | (simp [errW_none, errW_some] <;> rfl) | (simp only [← hji31]; first | rfl | (simp [errW_none, errW_some] <;> rfl)) | (simp [*, errW_none, errW_some] <;> rfl), bq_ HB⟩
              ·rw [if_neg c35] at H; have c35b0 : (t311.toList == (a0.extract ((ji31) : Int).toNat (x1_2 : Int).toNat).toList) = false := beq_eq_false_iff_ne.mpr c35; have c35b1 : (t311.toList != (a0.extract ((ji31) : Int).toNat (x1_2 : Int).toNat).toList) = true := bne_iff_ne.mpr c35; simp only [Option.some.injEq, Prod.mk.injEq] at H; obtain ⟨rfl, rfl, rfl, rfl⟩ := H; try go_wp2
               have n0_ := Aside0.mk (below_drew1 HB.out); clear HB; have HB := n0_; clear n0_; refine start_ (n := 13) (S := fun w' => True) (ds := []) #[false, false, false, false, false, false, false, false, false, false, false, false, false] (by kernel_rfl) rfl rfl trivial (fun hHeld => ?_); refine with_tabW impl_takeHead.tab19 impl_takeHead.bits19 (fun HT_ HW_ => ?_); generalize wr.drew = w38 at HB hHeld ⊢; refine pP 0 59 (mB 13 1) HT_ ?_
               refine oN 1 (some 60) (mB 13 3) HT_ (fun K hK => ?_); refine goes_ Try.func89 (by kernel_rfl) rfl #[.int .i64 x9_2] (by rfl) rfl rfl ma_ ?_; with_reducible refine (impl_isValue.calls x9_2 true _ A28.out).mono ?_
               rintro e w' ⟨rfl, ⟨nd, rfl⟩⟩
               refine ⟨_, rfl, ?_⟩; refine hK.out _ _ trivial (fun hHeld => ?_); clear hK K; refine nO 60 ?_
               refine pP 2 61 (mB 13 7) HT_ ?_
               refine pP 3 62 (mB 13 15) HT_ ?_
               refine pP 4 63 (mB 13 31) HT_ ?_
               refine pP 5 64 (mB 13 63) HT_ ?_
               refine pP 7 66 (mB 13 191) HT_ ?_
               refine pP 8 67 (mB 13 447) HT_ ?_
               refine pP 9 68 (mB 13 959) HT_ ?_
               refine pP 10 69 (mB 13 1983) HT_ ?_
               refine oN 6 (some 65) (mB 13 2047) HT_ (fun K hK => ?_); refine goes_ Try.func64 (by kernel_rfl) rfl #[.int .i64 (wrap64 (Int.tdiv (wrap64 (bt a0 a1)) 32)), .int .i64 x9_2] (by rfl) rfl rfl ma_ ?_; with_reducible refine (impl_head.calls (wrap64 (Int.tdiv (wrap64 (bt a0 a1)) 32)) x9_2 t311 _ A30.out).mono ?_
               rintro e w39 ⟨rfl, hb⟩
               refine ⟨_, rfl, ?_⟩; have n0_ := Aside0.mk (bs_ hb); clear HB; have HB := n0_; clear n0_; (try clear hb); (try clear hb2); (try clear hk); (try clear hi); refine hK.out _ _ trivial (fun hHeld => ?_); clear hK K; refine nO 65 ?_
               refine pP 11 70 (mB 13 4095) HT_ ?_
               refine pP 12 71 (mB 13 8191) HT_ ?_
               refine done_ (done_of HT_.out (by kernel_rfl)) ?_; try go_wp2
               refine bodyPost_ret (results_list (rs := [.tmp 4, .tmp 5, .tmp 6, .tmp 7]) rfl (by simp) (.tmp (.tmp (.tmp (.tmp .nil))))) rfl ?_; exact ⟨by first | rfl | (simp [errW_none, errW_some] <;> rfl) | (simp only [← hji31]; first | rfl | (simp [errW_none, errW_some] <;> rfl)) | (simp [*, errW_none, errW_some] <;> rfl), bq_ HB⟩
             ·rw [if_neg c34] at H; exact no_ H
            ·rw [if_neg c33] at H; exact no_ H
           ·rw [if_neg c32] at H; exact no_ H
          ·replace c29 := Bool.eq_false_iff.mpr c29; subst c29; have H1 : (some (0, 0, 0, false)) = some (r1, r2, r3, r4) := by rw [if_neg (show ¬ (false = true) by decide)] at H; exact H
           clear H; have H := H1; clear H1; simp only [Option.some.injEq, Prod.mk.injEq] at H; obtain ⟨rfl, rfl, rfl, rfl⟩ := H; try go_wp2
           have n0_ := Aside0.mk (below_drew1 HB.out); clear HB; have HB := n0_; clear n0_; refine start_ (n := 13) (S := fun w' => True) (ds := []) #[false, false, false, false, false, false, false, false, false, false, false, false, false] (by kernel_rfl) rfl rfl trivial (fun hHeld => ?_); refine with_tabW impl_takeHead.tab19 impl_takeHead.bits19 (fun HT_ HW_ => ?_); generalize wr.drew = w40 at HB hHeld ⊢; refine pP 0 59 (mB 13 1) HT_ ?_
           refine oN 1 (some 60) (mB 13 3) HT_ (fun K hK => ?_); refine goes_ Try.func89 (by kernel_rfl) rfl #[.int .i64 x9_2] (by rfl) rfl rfl ma_ ?_; with_reducible refine (impl_isValue.calls x9_2 false _ A28.out).mono ?_
           rintro e w' ⟨rfl, ⟨nd, rfl⟩⟩
           refine ⟨_, rfl, ?_⟩; refine hK.out _ _ trivial (fun hHeld => ?_); clear hK K; refine nO 60 ?_
           refine pP 2 61 (mB 13 7) HT_ ?_
           refine pP 3 62 (mB 13 15) HT_ ?_
           refine pQ 4 63 (mB 13 31) HT_ ?_
           refine pQ 5 64 (mB 13 63) HT_ ?_
           refine pQ 6 65 (mB 13 127) HT_ ?_
           refine pQ 7 66 (mB 13 255) HT_ ?_
           refine pQ 8 67 (mB 13 511) HT_ ?_
           refine pQ 9 68 (mB 13 1023) HT_ ?_
           refine pQ 10 69 (mB 13 2047) HT_ ?_
           refine pQ 11 70 (mB 13 4095) HT_ ?_
           refine pP 12 71 (mB 13 8191) HT_ ?_
           refine done_ (done_of HT_.out (by kernel_rfl)) ?_; try go_wp2
           refine bodyPost_ret (results_list (rs := [.tmp 4, .tmp 5, .tmp 6, .tmp 7]) rfl (by simp) (.tmp (.tmp (.tmp (.tmp .nil))))) rfl ?_; exact ⟨er_, bq_ HB⟩
   ·rw [if_neg c6] at H; exact no_ H
  ·rw [if_neg c5] at H; exact no_ H
 ·replace c4 := Bool.eq_false_iff.mpr c4; subst c4; have H1 : (some (0, 0, 0, false)) = some (r1, r2, r3, r4) := by rw [if_neg (show ¬ (false = true) by decide)] at H; exact H
  clear H; have H := H1; clear H1; simp only [Option.some.injEq, Prod.mk.injEq] at H; obtain ⟨rfl, rfl, rfl, rfl⟩ := H
  go_enter Try.func67, Try.ntmps67
  go_wp2_with (first | ((with_reducible refine gate_callee (f := 36) rfl ?_); refine goesL_ (some 16) rfl rfl Try.func36 (by kernel_rfl) rfl #[.int .i64 a1, .int .i64 0, .int .i64 (wrap64 ((a0.size : Int) - 1))] rfl ma_ ?_; (with_reducible refine (impl_within.calls a1 0 (wrap64 ((a0.size : Int) - 1)) false _ A3.out).mono ?_); rintro e w' ⟨rfl, ⟨nd, rfl⟩⟩; refine ⟨_, rfl, ?_⟩)); refine bodyPost_ret (results_list (rs := [.tmp 4, .tmp 5, .tmp 6, .tmp 7]) rfl (by simp) (.tmp (.tmp (.tmp (.tmp .nil))))) rfl ?_; exact ⟨er_, bq_ HB⟩
end Go.Proofs.Ytaffjcaohbkmoaa.QFnBundles
