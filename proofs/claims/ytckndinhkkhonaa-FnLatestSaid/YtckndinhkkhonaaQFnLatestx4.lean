import Derived.Test.YtckndinhkkhonaaQFnLatestx0
import Derived.Test.YtckndinhkkhonaaQFnLatestx3
namespace Go.Proofs.Ytckndinhkkhonaa.QFnLatest
open Go.RowKit Go.Proofs.YtckndinhkkhonaaW.PrintWords Go.Proofs.YtckndinhkkhonaaW.PrintLast Go.Proofs.YtckndinhkkhonaaW.PrintMore
attribute [local go_sem] max2_int min2_int max_two min_two max_three min_three max_four min_four   -- for this text's walks alone
set_option linter.unusedVariables false
set_option linter.unusedSimpArgs false
mutual
def impl_reach.l0 : Nat → List (S53) → List Int → List Int → Option (List Int × List Int)
 | 0, _, _, _ => none
 | k + 1, x0, x8, x9 => impl_reach.l1 k x0 x8 x9 (-1) 0 x0 (x0.length : Int) 0
def impl_reach.l1 : Nat → List (S53) → List Int → List Int → Int → Int → List (S53) → Int → Int → Option (List Int × List Int)
 | 0, _, _, _, _, _, _, _, _ => none
 | k + 1, x0, x8, x9, x10, x11, x24, x25, x26 => if x26 < x25 then (if 0 ≤ x26 then (if x26 < (x24.length : Int) then (if 0 ≤ ((rd_T53 x24 x26).f0) then (if ((rd_T53 x24 x26).f0) < (x8.length : Int) then (if (rd x8 ((rd_T53 x24 x26).f0)) < 0 then (impl_reach.l1 k x0 x8 x9 x10 x11 x24 x25 (wrap64 (x26 + 1))) else ((impl_Contact_by.f ((rd_T53 x24 x26).f0) ((rd_T53 x24 x26).f1) ((rd_T53 x24 x26).f2) ((rd_T53 x24 x26).f3) ((rd_T53 x24 x26).f4) (rd x8 ((rd_T53 x24 x26).f0))).bind fun bt166 => (if bt166.2 = true then (if 0 ≤ ((rd_T53 x24 x26).f1) then (if ((rd_T53 x24 x26).f1) < (x8.length : Int) then (if (rd x8 ((rd_T53 x24 x26).f1)) < 0 then (if x10 < 0 then (impl_reach.l1 k x0 x8 x9 x26 bt166.1 x24 x25 (wrap64 (x26 + 1))) else (if bt166.1 < x11 then (impl_reach.l1 k x0 x8 x9 x26 bt166.1 x24 x25 (wrap64 (x26 + 1))) else (impl_reach.l1 k x0 x8 x9 x10 x11 x24 x25 (wrap64 (x26 + 1))))) else (if bt166.1 < (rd x8 ((rd_T53 x24 x26).f1)) then (if x10 < 0 then (impl_reach.l1 k x0 x8 x9 x26 bt166.1 x24 x25 (wrap64 (x26 + 1))) else (if bt166.1 < x11 then (impl_reach.l1 k x0 x8 x9 x26 bt166.1 x24 x25 (wrap64 (x26 + 1))) else (impl_reach.l1 k x0 x8 x9 x10 x11 x24 x25 (wrap64 (x26 + 1))))) else (impl_reach.l1 k x0 x8 x9 x10 x11 x24 x25 (wrap64 (x26 + 1))))) else (none)) else (none)) else (impl_reach.l1 k x0 x8 x9 x10 x11 x24 x25 (wrap64 (x26 + 1)))))) else (none)) else (none)) else (none)) else (none)) else (if x10 < 0 then (some (x8, x9)) else (if 0 ≤ x10 then (if x10 < (x0.length : Int) then (if 0 ≤ ((rd_T53 x0 x10).f1) then (if ((rd_T53 x0 x10).f1) < (x8.length : Int) then (if ((rd_T53 x0 x10).f1) < (x9.length : Int) then (impl_reach.l0 k x0 (x8.set (((rd_T53 x0 x10).f1) : Int).toNat x11) (x9.set (((rd_T53 x0 x10).f1) : Int).toNat x10)) else (none)) else (none)) else (none)) else (none)) else (none)))
end
def impl_reach.f (k : Nat) (l0 : List (S53)) (a1 : Int) (a2 : Int) : Option (List Int × List Int) := (slices_Repeat_int_int.f (([(-1)] : List Int)) 8).bind fun t148 => ((slices_Repeat_int_int.f (([(-1)] : List Int)) 8).bind fun t154 => (if 0 ≤ a1 then (if a1 < (t148.length : Int) then (impl_reach.l0 k l0 (t148.set (a1 : Int).toNat a2) t154) else (none)) else (none)))
theorem impl_reach.mono_l : ∀ k, (∀ y0 y1 y2, LeO (impl_reach.l0 k y0 y1 y2) (impl_reach.l0 (k + 1) y0 y1 y2)) ∧ (∀ y0 y1 y2 y3 y4 y5 y6 y7, LeO (impl_reach.l1 k y0 y1 y2 y3 y4 y5 y6 y7) (impl_reach.l1 (k + 1) y0 y1 y2 y3 y4 y5 y6 y7))
 | 0 => ⟨fun _ _ _ r h => by simp [impl_reach.l0] at h, fun _ _ _ _ _ _ _ _ r h => by simp [impl_reach.l1] at h⟩
 | k + 1 => by
  obtain ⟨ih0, ih1⟩ := impl_reach.mono_l k
  refine ⟨?_, ?_⟩
  ·intro y0 y1 y2
   unfold impl_reach.l0
   repeat' first
   | (with_reducible exact ih0 _ _ _)
   | (with_reducible exact ih1 _ _ _ _ _ _ _ _)
   | (with_reducible exact LeO.refl _)
   | (with_reducible exact LeO.none _)
   | (with_reducible refine LeO.ite ?_ ?_)
   | (with_reducible refine LeO.bind ?_ (fun _ => ?_))
   | exact ih0 _ _ _
   | exact ih1 _ _ _ _ _ _ _ _
   | exact LeO.none _
   | refine LeO.ite ?_ ?_
   | refine LeO.bind ?_ (fun _ => ?_)
  ·intro y0 y1 y2 y3 y4 y5 y6 y7
   unfold impl_reach.l1
   repeat' first
   | (with_reducible exact ih0 _ _ _)
   | (with_reducible exact ih1 _ _ _ _ _ _ _ _)
   | (with_reducible exact LeO.refl _)
   | (with_reducible exact LeO.none _)
   | (with_reducible refine LeO.ite ?_ ?_)
   | (with_reducible refine LeO.bind ?_ (fun _ => ?_))
   | exact ih0 _ _ _
   | exact ih1 _ _ _ _ _ _ _ _
   | exact LeO.none _
   | refine LeO.ite ?_ ?_
   | refine LeO.bind ?_ (fun _ => ?_)
theorem impl_reach.mono : ∀ a0 a1 a2 k, LeO (impl_reach.f k a0 a1 a2) (impl_reach.f (k + 1) a0 a1 a2) := by
 intro a0 a1 a2 k
 obtain ⟨ih0, ih1⟩ := impl_reach.mono_l k
 unfold impl_reach.f
 repeat' first
   | (with_reducible exact ih0 _ _ _)
   | (with_reducible exact ih1 _ _ _ _ _ _ _ _)
   | (with_reducible exact LeO.refl _)
   | (with_reducible exact LeO.none _)
   | (with_reducible refine LeO.ite ?_ ?_)
   | (with_reducible refine LeO.bind ?_ (fun _ => ?_))
   | exact ih0 _ _ _
   | exact ih1 _ _ _ _ _ _ _ _
   | exact LeO.none _
   | refine LeO.ite ?_ ?_
   | refine LeO.bind ?_ (fun _ => ?_)
def impl_reach.T8 : Bool × List (List Nat × List Nat) := (true, [([], []), ([], []), ([], []), ([2], [2]), ([1, 3], [1, 3]), ([4], [4]), ([0, 5], [0, 5]), ([6], [6]), ([7], [7]), ([7], [7]), ([8, 6, 0, 1, 2, 3, 4, 5, 6, 7, 8], [8]), ([9, 10, 0, 1, 2, 3, 4, 5, 6, 7, 8, 9, 10], [9])])
def impl_reach.B8 : List Nat := [0, 0, 0, 4, 14, 30, 63, 127, 255, 255, 511, 2047]
theorem impl_reach.tab8 : rtab .any (opsOf Try.f66 8) = impl_reach.T8 := by kernel_rfl
theorem impl_reach.bits8 : waitsOk impl_reach.T8.2 impl_reach.B8 = true := by kernel_rfl
def impl_reach.T14 : Bool × List (List Nat × List Nat) := (true, [([], []), ([], []), ([], []), ([1, 2], [1, 2]), ([3], [3]), ([4], [4]), ([], []), ([], []), ([], []), ([7, 8], [7, 8]), ([9], [9]), ([10], [10]), ([], []), ([], []), ([0, 5, 0, 1, 2, 3, 4, 5, 11, 12], [0, 5]), ([14, 12, 0, 1, 2, 3, 4, 5, 11, 12], [12, 14]), ([6, 11, 0, 1, 2, 3, 4, 5, 6, 7, 8, 9, 10, 11, 12, 13, 14, 15], [6, 11]), ([16, 13, 15, 0, 1, 2, 3, 4, 5, 6, 7, 8, 9, 10, 11, 12, 13, 14, 15], [13, 16])])
def impl_reach.B14 : List Nat := [0, 0, 0, 6, 14, 30, 0, 0, 0, 384, 896, 1920, 0, 0, 8127, 24511, 65535, 131071]
theorem impl_reach.tab14 : rtab .any (opsOf Try.f66 14) = impl_reach.T14 := by kernel_rfl
theorem impl_reach.bits14 : waitsOk impl_reach.T14.2 impl_reach.B14 = true := by kernel_rfl
set_option maxHeartbeats 8000000 in
set_option maxRecDepth 100000 in
theorem impl_reach.calls (k : Nat) (A0 : Option Addr) (c0 : Nat) (l0 : List (S53)) (a1 : Int) (a2 : Int) (r1 : List Int) (r2 : List Int) (w : World) (hr0 : Kd.C k53 w A0 l0.length l0) (hc0 : l0.length ≤ c0) (h : impl_reach.f k l0 a1 a2 = some (r1, r2)) :
  Calls Try.prog 66 #[.slice A0 l0.length c0, .int .i64 a1, .int .i64 a2] w fun e w' => ∃ v0_ v1_ : Value, e = .returned (.tuple #[v0_, v1_]) ∧ Kd.R (Kd.int .i64) 3 w' w.heap.size (fun k_ => some k_ ≠ (v1_ : Value).ownBlock) v0_ r1 ∧ Kd.R (Kd.int .i64) 3 w' w.heap.size (fun k_ => some k_ ≠ (v0_ : Value).ownBlock) v1_ r2 ∧ Below w.heap.size w w' := by
 have hu53 := Try.underlying53
 have HR0 := Aside0.mk hr0
 have HC0 := Aside0.mk hc0
 clear hr0 hc0
 have HB := Aside0.mk (Below.refl w.heap.size w)
 have H : ((slices_Repeat_int_int.f (([(-1)] : List Int)) 8).bind fun t148 => ((slices_Repeat_int_int.f (([(-1)] : List Int)) 8).bind fun t154 => (if 0 ≤ a1 then (if a1 < (t148.length : Int) then (impl_reach.l0 k l0 (t148.set (a1 : Int).toNat a2) t154) else (none)) else (none)))) = some (r1, r2) := h
 clear h
 obtain ⟨y145, hy145⟩ : ∃ y_ : List Int, y_ = (([(-1)] : List Int)) := ⟨_, rfl⟩
 replace H : ((slices_Repeat_int_int.f y145 8).bind fun t148 => ((slices_Repeat_int_int.f (([(-1)] : List Int)) 8).bind fun t154 => (if 0 ≤ a1 then (if a1 < (t148.length : Int) then (impl_reach.l0 k l0 (t148.set (a1 : Int).toNat a2) t154) else (none)) else (none)))) = some (r1, r2) := by first | (rw [hy145]; with_reducible exact H) | (have H2_ := (Option.bind_some _ _).symm.trans H; rw [hy145]; with_reducible exact H2_) | (have H2_ := (Option.bind_some _ _).symm.trans H; with_reducible exact H2_) | with_reducible exact H | (rw [hy145]; exact H) | exact H
 have Ny145 := Aside0.mk hy145
 clear hy145
 replace H := Option.bind_eq_some_iff.mp H
 obtain ⟨t148, A40, H⟩ := H
 replace H : ((slices_Repeat_int_int.f (([(-1)] : List Int)) 8).bind fun t154 => (if 0 ≤ a1 then (if a1 < (t148.length : Int) then (impl_reach.l0 k l0 (t148.set (a1 : Int).toNat a2) t154) else (none)) else (none))) = some (r1, r2) := H
 have A4 := Aside0.mk A40
 clear A40
 obtain ⟨y151, hy151⟩ : ∃ y_ : List Int, y_ = (([(-1)] : List Int)) := ⟨_, rfl⟩
 replace H : ((slices_Repeat_int_int.f y151 8).bind fun t154 => (if 0 ≤ a1 then (if a1 < (t148.length : Int) then (impl_reach.l0 k l0 (t148.set (a1 : Int).toNat a2) t154) else (none)) else (none))) = some (r1, r2) := by first | (rw [hy151]; with_reducible exact H) | (have H2_ := (Option.bind_some _ _).symm.trans H; rw [hy151]; with_reducible exact H2_) | (have H2_ := (Option.bind_some _ _).symm.trans H; with_reducible exact H2_) | with_reducible exact H | (rw [hy151]; exact H) | exact H
 have Ny151 := Aside0.mk hy151
 clear hy151
 replace H := Option.bind_eq_some_iff.mp H
 obtain ⟨t154, A50, H⟩ := H
 replace H : (if 0 ≤ a1 then (if a1 < (t148.length : Int) then (impl_reach.l0 k l0 (t148.set (a1 : Int).toNat a2) t154) else (none)) else (none)) = some (r1, r2) := H
 have A5 := Aside0.mk A50
 clear A50
 by_cases c6 : 0 ≤ a1
 ·rw [if_pos c6] at H
  have c6b0 : decide (0 ≤ a1) = true := decide_eq_true c6
  clear c6
  by_cases c7 : a1 < (t148.length : Int)
  ·rw [if_pos c7] at H
   have c7b0 : decide (a1 < (t148.length : Int)) = true := decide_eq_true c7
   clear c7
   obtain ⟨y157, hy157⟩ : ∃ y_ : List Int, y_ = (t148.set (a1 : Int).toNat a2) := ⟨_, rfl⟩
   replace H : (impl_reach.l0 k l0 y157 t154) = some (r1, r2) := by first | (rw [hy157]; with_reducible exact H) | (have H2_ := (Option.bind_some _ _).symm.trans H; rw [hy157]; with_reducible exact H2_) | (have H2_ := (Option.bind_some _ _).symm.trans H; with_reducible exact H2_) | with_reducible exact H | (rw [hy157]; exact H) | exact H
   have Ny157 := Aside0.mk hy157
   clear hy157
   have H' := Aside0.mk H
   clear H
   go_enter Try.func66, Try.ntmps66
   go_wp2_with (first | ((with_reducible refine gate_dst (N := 16) rfl ?_); refine Kd.R_lit (Kd.int .i64) _ 3 ?hg (N := 16) ?hd (xs := ([(-1)] : List Int)) (inner := [.int .i64 (-1)]) (ok := fun _ => True) (okp := fun _ => True) ?hr ?hp (fun _ hk => hk) trivial (Below.refl _ _) (Nat.le_refl _) (by simp) ?_; (case hd => rfl); (case hg => rfl); (case hr => first | (go_simp; done) | (go_simp; rfl)); (case hp => exact (Reps.one (show Kd.M (Kd.int .i64) _ _ _ (-1) [.int .i64 (-1)] from rfl) (Reps.none _ _))); intro v146 w9 ho10 hb hg_ hnew_; clear hg_ hnew_; (first | rw [← Ny145.out] at ho10 | (simp only [Int.reduceToNat] at ho10; rw [← Ny145.out] at ho10)); have n0_ := Aside0.mk (Kd.R_lower ho10 (below_size (by repeat (first | (with_reducible first | exact HB.out | apply below_alloc | apply pw_below_drewN | apply below_drew1) | exact HB.out | (with_reducible exact Below.refl _ _))))); have n1_ := Aside0.mk (below_step (by repeat (first | (with_reducible first | exact HB.out | apply below_alloc | apply pw_below_drewN | apply below_drew1) | exact HB.out | (with_reducible exact Below.refl _ _))) hb); clear HB; have HO147 := n0_; have HB := n1_; clear n0_ n1_; clear hb ho10; obtain ⟨Ao11, co11, eo11⟩ := Kd.R_slice HO147.out; subst eo11) | ((with_reducible refine gate_callee (f := 85) rfl ?_); refine goesL_ (some 17) rfl rfl Try.func85 (by kernel_rfl) rfl #[.slice Ao11 y145.length co11, .int .i64 8] rfl (by (try simp only [List.map_toArray, List.map_cons, List.map_nil]); first | done | rfl | (simp only [List.length_drop, List.length_take]; rfl)) ?_; (with_reducible refine (slices_Repeat_int_int.calls _ _ y145 8 t148 _ ?side1 ?side2 A4.out).mono ?_); (case side1 => repeat (first | exact (Kd.R_reads' HO147.out).2.2 | (with_reducible refine Kd.C_alloc ?_ _) | (with_reducible refine Kd.C_drewN ?_ _) | (with_reducible refine Kd.C_drew ?_))); (case side2 => exact (Kd.R_reads' HO147.out).2.1); rintro e w12 ⟨v149, rfl, ho0, hb⟩; refine ⟨_, rfl, ?_⟩; have n0_ := Aside0.mk (Kd.R_elder' (by (with_reducible repeat (first | apply Kd.R_alloc | apply Kd.R_drewN | apply Kd.R_drew)); exact HO147.out) (Kd.R_base ho0) hb); have n1_ := Aside0.mk (Kd.R_lower (Kd.R_new' ho0 (Kd.R_lt (by (with_reducible repeat (first | apply Kd.R_alloc | apply Kd.R_drewN | apply Kd.R_drew)); exact HO147.out))) (below_size (by repeat (first | (with_reducible first | exact HB.out | apply below_alloc | apply pw_below_drewN | apply below_drew1) | exact HB.out | (with_reducible exact Below.refl _ _))))); have n2_ := Aside0.mk (below_step (by repeat (first | (with_reducible first | exact HB.out | apply below_alloc | apply pw_below_drewN | apply below_drew1) | exact HB.out | (with_reducible exact Below.refl _ _))) hb); clear HO147; clear HB; have HO147 := n0_; have HO150 := n1_; have HB := n2_; clear n0_ n1_ n2_; (try clear hb); (try clear hb2); (try clear hk); (try clear hi); (try clear ho0)) | ((with_reducible refine gate_dst (N := 18) rfl ?_); refine Kd.R_lit (Kd.int .i64) _ 3 ?hg (N := 18) ?hd (xs := ([(-1)] : List Int)) (inner := [.int .i64 (-1)]) (ok := fun _ => True) (okp := fun _ => True) ?hr ?hp (fun _ hk => hk) trivial (Below.refl _ _) (Nat.le_refl _) (by simp) ?_; (case hd => rfl); (case hg => rfl); (case hr => first | (go_simp; done) | (go_simp; rfl)); (case hp => exact (Reps.one (show Kd.M (Kd.int .i64) _ _ _ (-1) [.int .i64 (-1)] from rfl) (Reps.none _ _))); intro v152 w13 ho14 hb hg_ hnew_; clear hg_ hnew_; (first | rw [← Ny151.out] at ho14 | (simp only [Int.reduceToNat] at ho14; rw [← Ny151.out] at ho14)); have n0_ := Aside0.mk (Kd.R_elder' (by (with_reducible repeat (first | apply Kd.R_alloc | apply Kd.R_drewN | apply Kd.R_drew)); exact HO147.out) (Kd.R_base ho14) hb); have n1_ := Aside0.mk (Kd.R_elder' (by (with_reducible repeat (first | apply Kd.R_alloc | apply Kd.R_drewN | apply Kd.R_drew)); exact HO150.out) (Kd.R_base ho14) hb); have n2_ := Aside0.mk (Kd.R_lower (Kd.R_new' (Kd.R_new' ho14 (Kd.R_lt (by (with_reducible repeat (first | apply Kd.R_alloc | apply Kd.R_drewN | apply Kd.R_drew)); exact HO147.out))) (Kd.R_lt (by (with_reducible repeat (first | apply Kd.R_alloc | apply Kd.R_drewN | apply Kd.R_drew)); exact HO150.out))) (below_size (by repeat (first | (with_reducible first | exact HB.out | apply below_alloc | apply pw_below_drewN | apply below_drew1) | exact HB.out | (with_reducible exact Below.refl _ _))))); have n3_ := Aside0.mk (below_step (by repeat (first | (with_reducible first | exact HB.out | apply below_alloc | apply pw_below_drewN | apply below_drew1) | exact HB.out | (with_reducible exact Below.refl _ _))) hb); clear HO147; clear HO150; clear HB; have HO147 := n0_; have HO150 := n1_; have HO153 := n2_; have HB := n3_; clear n0_ n1_ n2_ n3_; clear hb ho14; obtain ⟨Ao15, co15, eo15⟩ := Kd.R_slice HO153.out; subst eo15) | ((with_reducible refine gate_callee (f := 85) rfl ?_); refine goesL_ (some 19) rfl rfl Try.func85 (by kernel_rfl) rfl #[.slice Ao15 y151.length co15, .int .i64 8] rfl (by (try simp only [List.map_toArray, List.map_cons, List.map_nil]); first | done | rfl | (simp only [List.length_drop, List.length_take]; rfl)) ?_; (with_reducible refine (slices_Repeat_int_int.calls _ _ y151 8 t154 _ ?side1 ?side2 A5.out).mono ?_); (case side1 => repeat (first | exact (Kd.R_reads' HO153.out).2.2 | (with_reducible refine Kd.C_alloc ?_ _) | (with_reducible refine Kd.C_drewN ?_ _) | (with_reducible refine Kd.C_drew ?_))); (case side2 => exact (Kd.R_reads' HO153.out).2.1); rintro e w16 ⟨v155, rfl, ho0, hb⟩; refine ⟨_, rfl, ?_⟩; have n0_ := Aside0.mk (Kd.R_elder' (by (with_reducible repeat (first | apply Kd.R_alloc | apply Kd.R_drewN | apply Kd.R_drew)); exact HO147.out) (Kd.R_base ho0) hb); have n1_ := Aside0.mk (Kd.R_elder' (by (with_reducible repeat (first | apply Kd.R_alloc | apply Kd.R_drewN | apply Kd.R_drew)); exact HO150.out) (Kd.R_base ho0) hb); have n2_ := Aside0.mk (Kd.R_elder' (by (with_reducible repeat (first | apply Kd.R_alloc | apply Kd.R_drewN | apply Kd.R_drew)); exact HO153.out) (Kd.R_base ho0) hb); have n3_ := Aside0.mk (Kd.R_lower (Kd.R_new' (Kd.R_new' (Kd.R_new' ho0 (Kd.R_lt (by (with_reducible repeat (first | apply Kd.R_alloc | apply Kd.R_drewN | apply Kd.R_drew)); exact HO147.out))) (Kd.R_lt (by (with_reducible repeat (first | apply Kd.R_alloc | apply Kd.R_drewN | apply Kd.R_drew)); exact HO150.out))) (Kd.R_lt (by (with_reducible repeat (first | apply Kd.R_alloc | apply Kd.R_drewN | apply Kd.R_drew)); exact HO153.out))) (below_size (by repeat (first | (with_reducible first | exact HB.out | apply below_alloc | apply pw_below_drewN | apply below_drew1) | exact HB.out | (with_reducible exact Below.refl _ _))))); have n4_ := Aside0.mk (below_step (by repeat (first | (with_reducible first | exact HB.out | apply below_alloc | apply pw_below_drewN | apply below_drew1) | exact HB.out | (with_reducible exact Below.refl _ _))) hb); clear HO147; clear HO150; clear HO153; clear HB; have HO147 := n0_; have HO150 := n1_; have HO153 := n2_; have HO156 := n3_; have HB := n4_; clear n0_ n1_ n2_ n3_ n4_; (try clear hb); (try clear hb2); (try clear hk); (try clear hi); (try clear ho0); have p8 : 0 ≤ (a1 : Int) := of_decide_eq_true (by first | (with_reducible assumption) | assumption); have q8 : (a1 : Int) < ((t148.length : Int) : Int) := of_decide_eq_true (by first | (with_reducible assumption) | assumption); obtain ⟨go8, co8, eo8, gb8, gl8, cl8, HG8⟩ := Kd.R_form HO150.out (by omega); (first | cases eo8 | (injection eo8 with ea_ en_ ec_; (first | subst ea_ | (injection ea_ with ea_; subst ea_)); subst ec_; clear en_)); have GB8 := Aside0.mk gb8; have GG8 := Aside0.mk HG8; clear gb8 gl8 HG8; obtain ⟨hx8_0, hf8_0⟩ := Kd.R_celln 0 HO150.out (a1 : Int) p8 q8; replace p8 := eq_true p8; replace q8 := eq_true q8; have n_ := Aside0.mk (Kd.R_mono (ok' := (fun k_ => some k_ ≠ (.slice Ao11 y145.length co11 : Value).ownBlock ∧ some k_ ≠ (.slice Ao15 y151.length co15 : Value).ownBlock ∧ some k_ ≠ (v155 : Value).ownBlock)) HO150.out (fun k_ hk => ⟨hk.1.1.2, ⟨hk.1.2, hk.2⟩⟩)); clear HO150; have HO150 := n_; clear n_; obtain ⟨hy17_, hz17_⟩ := Kd.R_celln 0 HO150.out (a1 : Int) (of_decide_eq_true (by first | (with_reducible assumption) | assumption)) (of_decide_eq_true (by first | (with_reducible assumption) | assumption)); have HP17 := Kd.R_putg HO150.out (a1 : Int) a2) | ((with_reducible refine gate_store (t := 3) (p := 23) rfl ?_); refine store_event (t := 3) (p := 23) (v := ?vo_w18) (w1 := (w16.setCell ⟨go8, (a1 : Int).toNat, none⟩ (.int .i64 a2))) ?hg ?ho ?hn ?hr ?_; (case ho => rfl); (case hg => rfl); (case hn => rfl); (case hr => first | (go_simp; done) | (go_simp; rfl)); intro w18 hw; have hg : w16.grownBy w18 (some go8) := (by rw [hw]; exact HP17.2); have hp_ : Kd.R (Kd.int .i64) 3 w18 w.heap.size (fun k_ => some k_ ≠ (.slice Ao11 y145.length co11 : Value).ownBlock ∧ some k_ ≠ (.slice Ao15 y151.length co15 : Value).ownBlock ∧ some k_ ≠ (v155 : Value).ownBlock) (.slice (some ⟨go8, 0, none⟩) t148.length co8) y157 := (by rw [hw, Ny157.out]; exact HP17.1); clear HP17; have n0_ := Aside0.mk (Kd.R_after (v := (.slice (some ⟨go8, 0, none⟩) t148.length co8)) (v1 := (.slice (some ⟨go8, 0, none⟩) t148.length co8)) (ok := (fun k_ => some k_ ≠ (.slice Ao15 y151.length co15 : Value).ownBlock ∧ some k_ ≠ (v155 : Value).ownBlock)) (by (with_reducible repeat (first | apply Kd.R_alloc | apply Kd.R_drewN | apply Kd.R_drew)); exact Kd.R_mono HO147.out (fun _ hk => ⟨⟨hk.1.2, hk.2⟩, hk.1.1.2⟩)) hg (.inl rfl)); have n1_ := Aside0.mk (hp_); have n2_ := Aside0.mk (Kd.R_after (v := (.slice (some ⟨go8, 0, none⟩) t148.length co8)) (v1 := (.slice (some ⟨go8, 0, none⟩) t148.length co8)) (ok := (fun k_ => some k_ ≠ (.slice Ao11 y145.length co11 : Value).ownBlock ∧ some k_ ≠ (v155 : Value).ownBlock)) (by (with_reducible repeat (first | apply Kd.R_alloc | apply Kd.R_drewN | apply Kd.R_drew)); exact Kd.R_mono HO153.out (fun _ hk => ⟨⟨hk.1.1.2, hk.2⟩, hk.1.2⟩)) hg (.inl rfl)); have n3_ := Aside0.mk (Kd.R_after (v := (.slice (some ⟨go8, 0, none⟩) t148.length co8)) (v1 := (.slice (some ⟨go8, 0, none⟩) t148.length co8)) (ok := (fun k_ => some k_ ≠ (.slice Ao11 y145.length co11 : Value).ownBlock ∧ some k_ ≠ (.slice Ao15 y151.length co15 : Value).ownBlock)) (by (with_reducible repeat (first | apply Kd.R_alloc | apply Kd.R_drewN | apply Kd.R_drew)); exact Kd.R_mono HO156.out (fun _ hk => ⟨⟨hk.1.1.2, hk.2⟩, hk.1.2⟩)) hg (.inl rfl)); have n4_ := Aside0.mk ((by rw [hw]; exact below_set (HB.out) GB8.out : Below w.heap.size w w18)); clear HO147; clear HO150; clear HO153; clear HO156; clear HB; have HO147 := n0_; have HO150 := n1_; have HO153 := n2_; have HO156 := n3_; have HB := n4_; clear n0_ n1_ n2_ n3_ n4_; clear hg hw hp_))
   go_loopg [] k (fun kq w' => ∃ (x8_1 : List Int) (x9_1 : List Int), Aside0 (impl_reach.l0 kq l0 x8_1 x9_1 = some (r1, r2)) ∧ Aside0 (kq ≤ k) ∧ Aside0 (Kd.R (Kd.int .i64) 3 w' w.heap.size (fun k_ => some k_ ≠ (v155 : Value).ownBlock) (.slice (some ⟨go8, 0, none⟩) t148.length co8) x8_1) ∧ Aside0 (Kd.R (Kd.int .i64) 3 w' w.heap.size (fun k_ => some k_ ≠ ((.slice (some ⟨go8, 0, none⟩) t148.length co8) : Value).ownBlock) v155 x9_1) ∧ Aside0 (Below w.heap.size w w'))
   case atStart => exact ⟨(y157), (t154), H', ⟨Nat.le_refl _⟩, ⟨by (with_reducible repeat (first | apply Kd.R_alloc | apply Kd.R_drewN | apply Kd.R_drew)); exact Kd.R_mono HO150.out (fun _ hk => hk.2.2)⟩, ⟨by (with_reducible repeat (first | apply Kd.R_alloc | apply Kd.R_drewN | apply Kd.R_drew)); exact Kd.R_mono HO156.out (fun _ hk => hk.2)⟩, ⟨by repeat (first | (with_reducible first | exact HB.out | apply below_alloc | apply pw_below_drewN | apply below_drew1) | exact HB.out | (with_reducible exact Below.refl _ _))⟩⟩
   case round =>
    clear H'
    try clear p2
    try clear c6
    try clear c6b0
    try clear c7
    try clear c7b0
    try clear c8
    try clear p8
    try clear q8
    try clear hx8
    try clear hf8
    try clear hx8_0
    try clear p8
    try clear q8
    obtain ⟨x8_1, x9_1, HA, HK1, HO_8, HO_9, HB⟩ := hrel
    have hl8_1 := (Kd.R_reads' HO_8.out).1
    rw [hl8_1] at HO_8
    (try simp only [hl8_1])
    (try simp only [hl8_1] at HO_9)
    cases gk with
    | zero => exact absurd HA.out (by simp [impl_reach.l0])
    | succ k1 =>
     have H := HA.out
     clear HA
     simp only [impl_reach.l0] at H
     have H' := Aside0.mk H
     clear H
     go_wp2
     go_loopg [10, 11, 26] k1 (fun kq v10 v11 v26 w' => ∃ (x10_2 : Int) (x11_2 : Int) (x26_2 : Int), v10 = .int .i64 x10_2 ∧ v11 = .int .i64 x11_2 ∧ v26 = .int .i64 x26_2 ∧ Aside0 (impl_reach.l1 kq l0 x8_1 x9_1 x10_2 x11_2 l0 (l0.length : Int) x26_2 = some (r1, r2)) ∧ Aside0 (kq ≤ k1) ∧ Aside0 (Kd.R (Kd.int .i64) 3 w' w.heap.size (fun k_ => some k_ ≠ (v155 : Value).ownBlock) (.slice (some ⟨go8, 0, none⟩) x8_1.length co8) x8_1) ∧ Aside0 (Kd.R (Kd.int .i64) 3 w' w.heap.size (fun k_ => some k_ ≠ ((.slice (some ⟨go8, 0, none⟩) x8_1.length co8) : Value).ownBlock) v155 x9_1) ∧ Aside0 (Below w.heap.size w w'))
     case atStart => exact ⟨((-1)), (0), (0), (by first | rfl | (simp; done) | (simp [*]; done)), (by first | rfl | (simp; done) | (simp [*]; done)), (by first | rfl | (simp; done) | (simp [*]; done)), H', ⟨Nat.le_refl _⟩, ⟨by (try simp only [hl8_1]); (with_reducible repeat (first | apply Kd.R_alloc | apply Kd.R_drewN | apply Kd.R_drew)); exact HO_8.out⟩, ⟨by (try simp only [hl8_1]); (with_reducible repeat (first | apply Kd.R_alloc | apply Kd.R_drewN | apply Kd.R_drew)); exact HO_9.out⟩, ⟨by repeat (first | (with_reducible first | exact HB.out | apply below_alloc | apply pw_below_drewN | apply below_drew1) | exact HB.out | (with_reducible exact Below.refl _ _))⟩⟩
     case round =>
      clear H'
      try clear p2
      try clear c6
      try clear c6b0
      try clear c7
      try clear c7b0
      try clear c8
      try clear p8
      try clear q8
      try clear hx8
      try clear hf8
      try clear hx8_0
      try clear p2
      try clear p8
      try clear q8
      obtain ⟨x10_2, x11_2, x26_2, rfl, rfl, rfl, HA, HK2, HO_8, HO_9, HB⟩ := hrel
      cases gk with
      | zero => exact absurd HA.out (by simp [impl_reach.l1])
      | succ k2 =>
       have H := HA.out
       clear HA
       simp only [impl_reach.l1] at H
       by_cases c19 : x26_2 < (l0.length : Int)
       ·rw [if_pos c19] at H
        have c19b0 : decide (x26_2 < (l0.length : Int)) = true := decide_eq_true c19
        clear c19
        by_cases c20 : 0 ≤ x26_2
        ·rw [if_pos c20] at H
         have c20b0 : decide (0 ≤ x26_2) = true := decide_eq_true c20
         clear c20
         by_cases c21 : x26_2 < (l0.length : Int)
         ·rw [if_pos c21] at H
          have c21b0 : decide (x26_2 < (l0.length : Int)) = true := decide_eq_true c21
          clear c21
          by_cases c22 : 0 ≤ ((rd_T53 l0 x26_2).f0)
          ·rw [if_pos c22] at H
           have c22b0 : decide (0 ≤ ((rd_T53 l0 x26_2).f0)) = true := decide_eq_true c22
           clear c22
           by_cases c23 : ((rd_T53 l0 x26_2).f0) < (x8_1.length : Int)
           ·rw [if_pos c23] at H
            have c23b0 : decide (((rd_T53 l0 x26_2).f0) < (x8_1.length : Int)) = true := decide_eq_true c23
            clear c23
            by_cases c24 : (rd x8_1 ((rd_T53 l0 x26_2).f0)) < 0
            ·rw [if_pos c24] at H
             have c24b0 : decide ((rd x8_1 ((rd_T53 l0 x26_2).f0)) < 0) = true := decide_eq_true c24
             clear c24
             have H' := Aside0.mk H
             clear H
             have p162 : 0 ≤ (x26_2 : Int) := of_decide_eq_true (by first | (with_reducible assumption) | assumption)
             have q162 : x26_2 < (l0.length : Int) := of_decide_eq_true (by first | (with_reducible assumption) | assumption)
             obtain ⟨ad162, e162, hx162_0, hx162_1, hx162_2, hx162_3, hx162_4⟩ := at_T53 HR0.out x26_2 p162 q162
             cases e162
             replace hx162_0 := (HB.out.cell (World.block_lt_of_cell? w _ hx162_0)).trans hx162_0
             replace hx162_1 := (HB.out.cell (World.block_lt_of_cell? w _ hx162_1)).trans hx162_1
             replace hx162_2 := (HB.out.cell (World.block_lt_of_cell? w _ hx162_2)).trans hx162_2
             replace hx162_3 := (HB.out.cell (World.block_lt_of_cell? w _ hx162_3)).trans hx162_3
             replace hx162_4 := (HB.out.cell (World.block_lt_of_cell? w _ hx162_4)).trans hx162_4
             replace p162 := eq_true p162
             replace q162 := eq_true q162
             go_wp2_with (first | ((with_reducible refine gate_dst (N := 13) rfl ?_); refine box_event ?hg (N := 13) ?hd (cs := #[.int .i64 0, .int .i64 0, .int .i64 0, .int .i64 0, .int .i64 0]) (t := 53) ?hr ?_; (case hd => rfl); (case hg => rfl); (case hr => first | (go_simp; done) | (go_simp; rfl)); intro gb163 hg w25 hbox hb; have n0_ := Aside0.mk (Kd.R_below (by (with_reducible repeat (first | apply Kd.R_alloc | apply Kd.R_drewN | apply Kd.R_drew)); exact HO_8.out) hb); have n1_ := Aside0.mk (Kd.R_below (by (with_reducible repeat (first | apply Kd.R_alloc | apply Kd.R_drewN | apply Kd.R_drew)); exact HO_9.out) hb); have n2_ := Aside0.mk (below_step (by repeat (first | (with_reducible first | exact HB.out | apply below_alloc | apply pw_below_drewN | apply below_drew1) | exact HB.out | (with_reducible exact Below.refl _ _))) hb); have n3_ := Aside0.mk (hbox); have n4_ := Aside0.mk ((by rw [hg]; exact (below_size (by repeat (first | (with_reducible first | exact HB.out | apply below_alloc | apply pw_below_drewN | apply below_drew1) | exact HB.out | (with_reducible exact Below.refl _ _)))) : w.heap.size ≤ gb163)); have n5_ := Aside0.mk ((by rw [hg]; exact (below_size (by repeat (first | (with_reducible first | exact HB.out | apply below_alloc | apply pw_below_drewN | apply below_drew1) | exact HB.out | (with_reducible exact Below.refl _ _)))) : w.heap.size ≤ gb163)); clear HO_8; clear HO_9; clear HB; have HO_8 := n0_; have HO_9 := n1_; have HB := n2_; have BK163 := n3_; have GW163 := n4_; have GE163 := n5_; clear n0_ n1_ n2_ n3_ n4_ n5_; clear hb hbox hg; have hcz26_0 : w25.cell? ⟨gb163, 0, none⟩ = some (.int .i64 0) := (blk_cell BK163.out 0).trans rfl; have hcz26_1 : w25.cell? ⟨gb163, 1, none⟩ = some (.int .i64 0) := (blk_cell BK163.out 1).trans rfl; have hcz26_2 : w25.cell? ⟨gb163, 2, none⟩ = some (.int .i64 0) := (blk_cell BK163.out 2).trans rfl; have hcz26_3 : w25.cell? ⟨gb163, 3, none⟩ = some (.int .i64 0) := (blk_cell BK163.out 3).trans rfl; have hcz26_4 : w25.cell? ⟨gb163, 4, none⟩ = some (.int .i64 0) := (blk_cell BK163.out 4).trans rfl; have hfz26_0 := blk_frozen BK163.out 0; have hfz26_1 := blk_frozen BK163.out 1; have hfz26_2 := blk_frozen BK163.out 2; have hfz26_3 := blk_frozen BK163.out 3; have hfz26_4 := blk_frozen BK163.out 4; have p164 : 0 ≤ (((rd_T53 l0 x26_2).f0) : Int) := of_decide_eq_true (by first | (with_reducible assumption) | assumption); have q164 : ((rd_T53 l0 x26_2).f0) < (x8_1.length : Int) := of_decide_eq_true (by first | (with_reducible assumption) | assumption); obtain ⟨ad164, e164, hx164_0⟩ := Kd.at_int (Kd.R_reads' HO_8.out).2.2 ((rd_T53 l0 x26_2).f0) p164 q164; obtain rfl : (⟨go8, 0, none⟩ : Addr) = ad164 := (by injection e164); (first | simp only [add_plain] at hx164_0 | simp only [add_at] at hx164_0 | simp only [Addr.add, Nat.zero_add] at hx164_0 | skip); have hn164_0 : (⟨go8, 0, none⟩ : Addr).block ≠ gb163 := Kd.own_blk (Kd.R_ne HO_8.out BK163.out (by decide)); have hn164_1 : (⟨go8, 0, none⟩ : Addr).block ≠ gb163 := Kd.own_blk (Kd.R_ne HO_8.out BK163.out (by decide)); have hn164_2 : (⟨go8, 0, none⟩ : Addr).block ≠ gb163 := Kd.own_blk (Kd.R_ne HO_8.out BK163.out (by decide)); have hn164_3 : (⟨go8, 0, none⟩ : Addr).block ≠ gb163 := Kd.own_blk (Kd.R_ne HO_8.out BK163.out (by decide)); have hn164_4 : (⟨go8, 0, none⟩ : Addr).block ≠ gb163 := Kd.own_blk (Kd.R_ne HO_8.out BK163.out (by decide)); replace hx164_0 := (cell_far (p := ⟨gb163, 0, none⟩) (by first | (rw [add_block]; exact hn164_0) | (show (Addr.add _ _).block ≠ _; rw [add_block]; exact hn164_0) | exact hn164_0) (.int .i64 ((rd_T53 l0 x26_2).f0))).trans hx164_0; replace hx164_0 := (cell_far (p := ⟨gb163, 1, none⟩) (by first | (rw [add_block]; exact hn164_1) | (show (Addr.add _ _).block ≠ _; rw [add_block]; exact hn164_1) | exact hn164_1) (.int .i64 ((rd_T53 l0 x26_2).f1))).trans hx164_0; replace hx164_0 := (cell_far (p := ⟨gb163, 2, none⟩) (by first | (rw [add_block]; exact hn164_2) | (show (Addr.add _ _).block ≠ _; rw [add_block]; exact hn164_2) | exact hn164_2) (.int .i64 ((rd_T53 l0 x26_2).f2))).trans hx164_0; replace hx164_0 := (cell_far (p := ⟨gb163, 3, none⟩) (by first | (rw [add_block]; exact hn164_3) | (show (Addr.add _ _).block ≠ _; rw [add_block]; exact hn164_3) | exact hn164_3) (.int .i64 ((rd_T53 l0 x26_2).f3))).trans hx164_0; replace hx164_0 := (cell_far (p := ⟨gb163, 4, none⟩) (by first | (rw [add_block]; exact hn164_4) | (show (Addr.add _ _).block ≠ _; rw [add_block]; exact hn164_4) | exact hn164_4) (.int .i64 ((rd_T53 l0 x26_2).f4))).trans hx164_0; clear hn164_0; clear hn164_1; clear hn164_2; clear hn164_3; clear hn164_4; replace p164 := eq_true p164; replace q164 := eq_true q164))
             go_roundg k2
             case measure => have := HK1.out; have := HK2.out; omega
             case rel => exact ⟨(x10_2), (x11_2), (wrap64 (x26_2 + 1)), (by first | rfl | (simp; done) | (simp [*]; done)), (by first | rfl | (simp; done) | (simp [*]; done)), (by first | rfl | (simp; done) | (simp [*]; done)), H', ⟨by have := HK1.out; have := HK2.out; omega⟩, ⟨by (try simp only [hl8_1]); (with_reducible repeat (first | apply Kd.R_alloc | apply Kd.R_drewN | apply Kd.R_drew)); exact Kd.R_mono (Kd.R_far (p := ⟨gb163, 4, none⟩) (Kd.R_far (p := ⟨gb163, 3, none⟩) (Kd.R_far (p := ⟨gb163, 2, none⟩) (Kd.R_far (p := ⟨gb163, 1, none⟩) (Kd.R_far (p := ⟨gb163, 0, none⟩) (Kd.R_types HO_8.out BK163.out (by decide)) (fun _ hk => hk.2) (.int .i64 ((rd_T53 l0 x26_2).f0))) (fun _ hk => hk.2) (.int .i64 ((rd_T53 l0 x26_2).f1))) (fun _ hk => hk.2) (.int .i64 ((rd_T53 l0 x26_2).f2))) (fun _ hk => hk.2) (.int .i64 ((rd_T53 l0 x26_2).f3))) (fun _ hk => hk.2) (.int .i64 ((rd_T53 l0 x26_2).f4))) (fun _ hk => hk.1)⟩, ⟨by (try simp only [hl8_1]); (with_reducible repeat (first | apply Kd.R_alloc | apply Kd.R_drewN | apply Kd.R_drew)); exact Kd.R_mono (Kd.R_far (p := ⟨gb163, 4, none⟩) (Kd.R_far (p := ⟨gb163, 3, none⟩) (Kd.R_far (p := ⟨gb163, 2, none⟩) (Kd.R_far (p := ⟨gb163, 1, none⟩) (Kd.R_far (p := ⟨gb163, 0, none⟩) (Kd.R_types HO_9.out BK163.out (by decide)) (fun _ hk => hk.2) (.int .i64 ((rd_T53 l0 x26_2).f0))) (fun _ hk => hk.2) (.int .i64 ((rd_T53 l0 x26_2).f1))) (fun _ hk => hk.2) (.int .i64 ((rd_T53 l0 x26_2).f2))) (fun _ hk => hk.2) (.int .i64 ((rd_T53 l0 x26_2).f3))) (fun _ hk => hk.2) (.int .i64 ((rd_T53 l0 x26_2).f4))) (fun _ hk => hk.1)⟩, ⟨by repeat (first | (with_reducible first | exact HB.out | apply below_alloc | apply pw_below_drewN | apply below_drew1 | refine below_set ?_ GE163.out) | exact HB.out | (with_reducible exact Below.refl _ _))⟩⟩
            ·rw [if_neg c24] at H
             have c24b0 : decide ((rd x8_1 ((rd_T53 l0 x26_2).f0)) < 0) = false := decide_eq_false c24
             clear c24
             replace H := Option.bind_eq_some_iff.mp H
             obtain ⟨⟨t166, t167⟩, A270, H⟩ := H
             replace H : (if t167 = true then (if 0 ≤ ((rd_T53 l0 x26_2).f1) then (if ((rd_T53 l0 x26_2).f1) < (x8_1.length : Int) then (if (rd x8_1 ((rd_T53 l0 x26_2).f1)) < 0 then (if x10_2 < 0 then (impl_reach.l1 k2 l0 x8_1 x9_1 x26_2 t166 l0 (l0.length : Int) (wrap64 (x26_2 + 1))) else (if t166 < x11_2 then (impl_reach.l1 k2 l0 x8_1 x9_1 x26_2 t166 l0 (l0.length : Int) (wrap64 (x26_2 + 1))) else (impl_reach.l1 k2 l0 x8_1 x9_1 x10_2 x11_2 l0 (l0.length : Int) (wrap64 (x26_2 + 1))))) else (if t166 < (rd x8_1 ((rd_T53 l0 x26_2).f1)) then (if x10_2 < 0 then (impl_reach.l1 k2 l0 x8_1 x9_1 x26_2 t166 l0 (l0.length : Int) (wrap64 (x26_2 + 1))) else (if t166 < x11_2 then (impl_reach.l1 k2 l0 x8_1 x9_1 x26_2 t166 l0 (l0.length : Int) (wrap64 (x26_2 + 1))) else (impl_reach.l1 k2 l0 x8_1 x9_1 x10_2 x11_2 l0 (l0.length : Int) (wrap64 (x26_2 + 1))))) else (impl_reach.l1 k2 l0 x8_1 x9_1 x10_2 x11_2 l0 (l0.length : Int) (wrap64 (x26_2 + 1))))) else (none)) else (none)) else (impl_reach.l1 k2 l0 x8_1 x9_1 x10_2 x11_2 l0 (l0.length : Int) (wrap64 (x26_2 + 1)))) = some (r1, r2) := H
             have A27 := Aside0.mk A270
             clear A270
             by_cases c28 : t167 = true
             ·subst c28
              have H1 : (if 0 ≤ ((rd_T53 l0 x26_2).f1) then (if ((rd_T53 l0 x26_2).f1) < (x8_1.length : Int) then (if (rd x8_1 ((rd_T53 l0 x26_2).f1)) < 0 then (if x10_2 < 0 then (impl_reach.l1 k2 l0 x8_1 x9_1 x26_2 t166 l0 (l0.length : Int) (wrap64 (x26_2 + 1))) else (if t166 < x11_2 then (impl_reach.l1 k2 l0 x8_1 x9_1 x26_2 t166 l0 (l0.length : Int) (wrap64 (x26_2 + 1))) else (impl_reach.l1 k2 l0 x8_1 x9_1 x10_2 x11_2 l0 (l0.length : Int) (wrap64 (x26_2 + 1))))) else (if t166 < (rd x8_1 ((rd_T53 l0 x26_2).f1)) then (if x10_2 < 0 then (impl_reach.l1 k2 l0 x8_1 x9_1 x26_2 t166 l0 (l0.length : Int) (wrap64 (x26_2 + 1))) else (if t166 < x11_2 then (impl_reach.l1 k2 l0 x8_1 x9_1 x26_2 t166 l0 (l0.length : Int) (wrap64 (x26_2 + 1))) else (impl_reach.l1 k2 l0 x8_1 x9_1 x10_2 x11_2 l0 (l0.length : Int) (wrap64 (x26_2 + 1))))) else (impl_reach.l1 k2 l0 x8_1 x9_1 x10_2 x11_2 l0 (l0.length : Int) (wrap64 (x26_2 + 1))))) else (none)) else (none)) = some (r1, r2) := by rw [if_pos rfl] at H; exact H
              clear H
              have H := H1
              clear H1
              by_cases c29 : 0 ≤ ((rd_T53 l0 x26_2).f1)
              ·rw [if_pos c29] at H
               have c29b0 : decide (0 ≤ ((rd_T53 l0 x26_2).f1)) = true := decide_eq_true c29
               clear c29
               by_cases c30 : ((rd_T53 l0 x26_2).f1) < (x8_1.length : Int)
               ·rw [if_pos c30] at H
                have c30b0 : decide (((rd_T53 l0 x26_2).f1) < (x8_1.length : Int)) = true := decide_eq_true c30
                clear c30
                by_cases c31 : (rd x8_1 ((rd_T53 l0 x26_2).f1)) < 0
                ·rw [if_pos c31] at H
                 have c31b0 : decide ((rd x8_1 ((rd_T53 l0 x26_2).f1)) < 0) = true := decide_eq_true c31
                 clear c31
                 by_cases c32 : x10_2 < 0
                 ·rw [if_pos c32] at H
                  have c32b0 : decide (x10_2 < 0) = true := decide_eq_true c32
                  clear c32
                  have H' := Aside0.mk H
                  clear H
                  have p162 : 0 ≤ (x26_2 : Int) := of_decide_eq_true (by first | (with_reducible assumption) | assumption)
                  have q162 : x26_2 < (l0.length : Int) := of_decide_eq_true (by first | (with_reducible assumption) | assumption)
                  obtain ⟨ad162, e162, hx162_0, hx162_1, hx162_2, hx162_3, hx162_4⟩ := at_T53 HR0.out x26_2 p162 q162
                  cases e162
                  replace hx162_0 := (HB.out.cell (World.block_lt_of_cell? w _ hx162_0)).trans hx162_0
                  replace hx162_1 := (HB.out.cell (World.block_lt_of_cell? w _ hx162_1)).trans hx162_1
                  replace hx162_2 := (HB.out.cell (World.block_lt_of_cell? w _ hx162_2)).trans hx162_2
                  replace hx162_3 := (HB.out.cell (World.block_lt_of_cell? w _ hx162_3)).trans hx162_3
                  replace hx162_4 := (HB.out.cell (World.block_lt_of_cell? w _ hx162_4)).trans hx162_4
                  replace p162 := eq_true p162
                  replace q162 := eq_true q162
                  try go_wp2_with (first | ((with_reducible refine gate_dst (N := 13) rfl ?_); refine box_event ?hg (N := 13) ?hd (cs := #[.int .i64 0, .int .i64 0, .int .i64 0, .int .i64 0, .int .i64 0]) (t := 53) ?hr ?_; (case hd => rfl); (case hg => rfl); (case hr => first | (go_simp; done) | (go_simp; rfl)); intro gb163 hg w33 hbox hb; have n0_ := Aside0.mk (Kd.R_below (by (with_reducible repeat (first | apply Kd.R_alloc | apply Kd.R_drewN | apply Kd.R_drew)); exact HO_8.out) hb); have n1_ := Aside0.mk (Kd.R_below (by (with_reducible repeat (first | apply Kd.R_alloc | apply Kd.R_drewN | apply Kd.R_drew)); exact HO_9.out) hb); have n2_ := Aside0.mk (below_step (by repeat (first | (with_reducible first | exact HB.out | apply below_alloc | apply pw_below_drewN | apply below_drew1) | exact HB.out | (with_reducible exact Below.refl _ _))) hb); have n3_ := Aside0.mk (hbox); have n4_ := Aside0.mk ((by rw [hg]; exact (below_size (by repeat (first | (with_reducible first | exact HB.out | apply below_alloc | apply pw_below_drewN | apply below_drew1) | exact HB.out | (with_reducible exact Below.refl _ _)))) : w.heap.size ≤ gb163)); have n5_ := Aside0.mk ((by rw [hg]; exact (below_size (by repeat (first | (with_reducible first | exact HB.out | apply below_alloc | apply pw_below_drewN | apply below_drew1) | exact HB.out | (with_reducible exact Below.refl _ _)))) : w.heap.size ≤ gb163)); clear HO_8; clear HO_9; clear HB; have HO_8 := n0_; have HO_9 := n1_; have HB := n2_; have BK163 := n3_; have GW163 := n4_; have GE163 := n5_; clear n0_ n1_ n2_ n3_ n4_ n5_; clear hb hbox hg; have hcz34_0 : w33.cell? ⟨gb163, 0, none⟩ = some (.int .i64 0) := (blk_cell BK163.out 0).trans rfl; have hcz34_1 : w33.cell? ⟨gb163, 1, none⟩ = some (.int .i64 0) := (blk_cell BK163.out 1).trans rfl; have hcz34_2 : w33.cell? ⟨gb163, 2, none⟩ = some (.int .i64 0) := (blk_cell BK163.out 2).trans rfl; have hcz34_3 : w33.cell? ⟨gb163, 3, none⟩ = some (.int .i64 0) := (blk_cell BK163.out 3).trans rfl; have hcz34_4 : w33.cell? ⟨gb163, 4, none⟩ = some (.int .i64 0) := (blk_cell BK163.out 4).trans rfl; have hfz34_0 := blk_frozen BK163.out 0; have hfz34_1 := blk_frozen BK163.out 1; have hfz34_2 := blk_frozen BK163.out 2; have hfz34_3 := blk_frozen BK163.out 3; have hfz34_4 := blk_frozen BK163.out 4; have p164 : 0 ≤ (((rd_T53 l0 x26_2).f0) : Int) := of_decide_eq_true (by first | (with_reducible assumption) | assumption); have q164 : ((rd_T53 l0 x26_2).f0) < (x8_1.length : Int) := of_decide_eq_true (by first | (with_reducible assumption) | assumption); obtain ⟨ad164, e164, hx164_0⟩ := Kd.at_int (Kd.R_reads' HO_8.out).2.2 ((rd_T53 l0 x26_2).f0) p164 q164; obtain rfl : (⟨go8, 0, none⟩ : Addr) = ad164 := (by injection e164); (first | simp only [add_plain] at hx164_0 | simp only [add_at] at hx164_0 | simp only [Addr.add, Nat.zero_add] at hx164_0 | skip); have hn164_0 : (⟨go8, 0, none⟩ : Addr).block ≠ gb163 := Kd.own_blk (Kd.R_ne HO_8.out BK163.out (by decide)); have hn164_1 : (⟨go8, 0, none⟩ : Addr).block ≠ gb163 := Kd.own_blk (Kd.R_ne HO_8.out BK163.out (by decide)); have hn164_2 : (⟨go8, 0, none⟩ : Addr).block ≠ gb163 := Kd.own_blk (Kd.R_ne HO_8.out BK163.out (by decide)); have hn164_3 : (⟨go8, 0, none⟩ : Addr).block ≠ gb163 := Kd.own_blk (Kd.R_ne HO_8.out BK163.out (by decide)); have hn164_4 : (⟨go8, 0, none⟩ : Addr).block ≠ gb163 := Kd.own_blk (Kd.R_ne HO_8.out BK163.out (by decide)); replace hx164_0 := (cell_far (p := ⟨gb163, 0, none⟩) (by first | (rw [add_block]; exact hn164_0) | (show (Addr.add _ _).block ≠ _; rw [add_block]; exact hn164_0) | exact hn164_0) (.int .i64 ((rd_T53 l0 x26_2).f0))).trans hx164_0; replace hx164_0 := (cell_far (p := ⟨gb163, 1, none⟩) (by first | (rw [add_block]; exact hn164_1) | (show (Addr.add _ _).block ≠ _; rw [add_block]; exact hn164_1) | exact hn164_1) (.int .i64 ((rd_T53 l0 x26_2).f1))).trans hx164_0; replace hx164_0 := (cell_far (p := ⟨gb163, 2, none⟩) (by first | (rw [add_block]; exact hn164_2) | (show (Addr.add _ _).block ≠ _; rw [add_block]; exact hn164_2) | exact hn164_2) (.int .i64 ((rd_T53 l0 x26_2).f2))).trans hx164_0; replace hx164_0 := (cell_far (p := ⟨gb163, 3, none⟩) (by first | (rw [add_block]; exact hn164_3) | (show (Addr.add _ _).block ≠ _; rw [add_block]; exact hn164_3) | exact hn164_3) (.int .i64 ((rd_T53 l0 x26_2).f3))).trans hx164_0; replace hx164_0 := (cell_far (p := ⟨gb163, 4, none⟩) (by first | (rw [add_block]; exact hn164_4) | (show (Addr.add _ _).block ≠ _; rw [add_block]; exact hn164_4) | exact hn164_4) (.int .i64 ((rd_T53 l0 x26_2).f4))).trans hx164_0; clear hn164_0; clear hn164_1; clear hn164_2; clear hn164_3; clear hn164_4; replace p164 := eq_true p164; replace q164 := eq_true q164))
                  have n0_ : Aside0 (Kd.R (Kd.int .i64) 3 (((((w33.setCell ⟨gb163, 0, none⟩ (.int .i64 ((rd_T53 l0 x26_2).f0))).setCell ⟨gb163, 1, none⟩ (.int .i64 ((rd_T53 l0 x26_2).f1))).setCell ⟨gb163, 2, none⟩ (.int .i64 ((rd_T53 l0 x26_2).f2))).setCell ⟨gb163, 3, none⟩ (.int .i64 ((rd_T53 l0 x26_2).f3))).setCell ⟨gb163, 4, none⟩ (.int .i64 ((rd_T53 l0 x26_2).f4))) w.heap.size (fun k_ => some k_ ≠ (v155 : Value).ownBlock) (.slice (some ⟨go8, 0, none⟩) x8_1.length co8) x8_1) := ⟨by (with_reducible repeat (first | apply Kd.R_alloc | apply Kd.R_drewN | apply Kd.R_drew)); exact Kd.R_mono (Kd.R_far (p := ⟨gb163, 4, none⟩) (Kd.R_far (p := ⟨gb163, 3, none⟩) (Kd.R_far (p := ⟨gb163, 2, none⟩) (Kd.R_far (p := ⟨gb163, 1, none⟩) (Kd.R_far (p := ⟨gb163, 0, none⟩) (Kd.R_types HO_8.out BK163.out (by decide)) (fun _ hk => hk.2) (.int .i64 ((rd_T53 l0 x26_2).f0))) (fun _ hk => hk.2) (.int .i64 ((rd_T53 l0 x26_2).f1))) (fun _ hk => hk.2) (.int .i64 ((rd_T53 l0 x26_2).f2))) (fun _ hk => hk.2) (.int .i64 ((rd_T53 l0 x26_2).f3))) (fun _ hk => hk.2) (.int .i64 ((rd_T53 l0 x26_2).f4))) (fun _ hk => hk.1)⟩
                  have n1_ : Aside0 (Kd.R (Kd.int .i64) 3 (((((w33.setCell ⟨gb163, 0, none⟩ (.int .i64 ((rd_T53 l0 x26_2).f0))).setCell ⟨gb163, 1, none⟩ (.int .i64 ((rd_T53 l0 x26_2).f1))).setCell ⟨gb163, 2, none⟩ (.int .i64 ((rd_T53 l0 x26_2).f2))).setCell ⟨gb163, 3, none⟩ (.int .i64 ((rd_T53 l0 x26_2).f3))).setCell ⟨gb163, 4, none⟩ (.int .i64 ((rd_T53 l0 x26_2).f4))) w.heap.size (fun k_ => some k_ ≠ (.slice (some ⟨go8, 0, none⟩) x8_1.length co8 : Value).ownBlock) v155 x9_1) := ⟨by (with_reducible repeat (first | apply Kd.R_alloc | apply Kd.R_drewN | apply Kd.R_drew)); exact Kd.R_mono (Kd.R_far (p := ⟨gb163, 4, none⟩) (Kd.R_far (p := ⟨gb163, 3, none⟩) (Kd.R_far (p := ⟨gb163, 2, none⟩) (Kd.R_far (p := ⟨gb163, 1, none⟩) (Kd.R_far (p := ⟨gb163, 0, none⟩) (Kd.R_types HO_9.out BK163.out (by decide)) (fun _ hk => hk.2) (.int .i64 ((rd_T53 l0 x26_2).f0))) (fun _ hk => hk.2) (.int .i64 ((rd_T53 l0 x26_2).f1))) (fun _ hk => hk.2) (.int .i64 ((rd_T53 l0 x26_2).f2))) (fun _ hk => hk.2) (.int .i64 ((rd_T53 l0 x26_2).f3))) (fun _ hk => hk.2) (.int .i64 ((rd_T53 l0 x26_2).f4))) (fun _ hk => hk.1)⟩
                  have n2_ : Aside0 ((((((w33.setCell ⟨gb163, 0, none⟩ (.int .i64 ((rd_T53 l0 x26_2).f0))).setCell ⟨gb163, 1, none⟩ (.int .i64 ((rd_T53 l0 x26_2).f1))).setCell ⟨gb163, 2, none⟩ (.int .i64 ((rd_T53 l0 x26_2).f2))).setCell ⟨gb163, 3, none⟩ (.int .i64 ((rd_T53 l0 x26_2).f3))).setCell ⟨gb163, 4, none⟩ (.int .i64 ((rd_T53 l0 x26_2).f4))).heap[gb163]? = some (.cells #[.int .i64 ((rd_T53 l0 x26_2).f0), .int .i64 ((rd_T53 l0 x26_2).f1), .int .i64 ((rd_T53 l0 x26_2).f2), .int .i64 ((rd_T53 l0 x26_2).f3), .int .i64 ((rd_T53 l0 x26_2).f4)] 53 (0, 0))) := ⟨by (with_reducible repeat (first | refine blk_drewN ?_ _ | refine blk_drew ?_ | refine blk_alloc ?_ _)); refine blk_put (cs := #[.int .i64 ((rd_T53 l0 x26_2).f0), .int .i64 ((rd_T53 l0 x26_2).f1), .int .i64 ((rd_T53 l0 x26_2).f2), .int .i64 ((rd_T53 l0 x26_2).f3), .int .i64 0]) ?_ 4 _ rfl; (with_reducible repeat (first | refine blk_drewN ?_ _ | refine blk_drew ?_ | refine blk_alloc ?_ _)); refine blk_put (cs := #[.int .i64 ((rd_T53 l0 x26_2).f0), .int .i64 ((rd_T53 l0 x26_2).f1), .int .i64 ((rd_T53 l0 x26_2).f2), .int .i64 0, .int .i64 0]) ?_ 3 _ rfl; (with_reducible repeat (first | refine blk_drewN ?_ _ | refine blk_drew ?_ | refine blk_alloc ?_ _)); refine blk_put (cs := #[.int .i64 ((rd_T53 l0 x26_2).f0), .int .i64 ((rd_T53 l0 x26_2).f1), .int .i64 0, .int .i64 0, .int .i64 0]) ?_ 2 _ rfl; (with_reducible repeat (first | refine blk_drewN ?_ _ | refine blk_drew ?_ | refine blk_alloc ?_ _)); refine blk_put (cs := #[.int .i64 ((rd_T53 l0 x26_2).f0), .int .i64 0, .int .i64 0, .int .i64 0, .int .i64 0]) ?_ 1 _ rfl; (with_reducible repeat (first | refine blk_drewN ?_ _ | refine blk_drew ?_ | refine blk_alloc ?_ _)); refine blk_put (cs := #[.int .i64 0, .int .i64 0, .int .i64 0, .int .i64 0, .int .i64 0]) ?_ 0 _ rfl; (with_reducible repeat (first | refine blk_drewN ?_ _ | refine blk_drew ?_ | refine blk_alloc ?_ _)); exact BK163.out⟩
                  have n3_ : Aside0 (Below w.heap.size w (((((w33.setCell ⟨gb163, 0, none⟩ (.int .i64 ((rd_T53 l0 x26_2).f0))).setCell ⟨gb163, 1, none⟩ (.int .i64 ((rd_T53 l0 x26_2).f1))).setCell ⟨gb163, 2, none⟩ (.int .i64 ((rd_T53 l0 x26_2).f2))).setCell ⟨gb163, 3, none⟩ (.int .i64 ((rd_T53 l0 x26_2).f3))).setCell ⟨gb163, 4, none⟩ (.int .i64 ((rd_T53 l0 x26_2).f4)))) := ⟨by repeat (first | (with_reducible first | exact HB.out | apply below_alloc | apply pw_below_drewN | apply below_drew1 | refine below_set ?_ GE163.out) | exact HB.out | (with_reducible exact Below.refl _ _))⟩
                  (try clear HO_8)
                  (try clear HO_9)
                  (try clear BK163)
                  (try clear HB)
                  generalize (((((w33.setCell ⟨gb163, 0, none⟩ (.int .i64 ((rd_T53 l0 x26_2).f0))).setCell ⟨gb163, 1, none⟩ (.int .i64 ((rd_T53 l0 x26_2).f1))).setCell ⟨gb163, 2, none⟩ (.int .i64 ((rd_T53 l0 x26_2).f2))).setCell ⟨gb163, 3, none⟩ (.int .i64 ((rd_T53 l0 x26_2).f3))).setCell ⟨gb163, 4, none⟩ (.int .i64 ((rd_T53 l0 x26_2).f4))) = w35 at n0_ n1_ n2_ n3_ ⊢
                  have HO_8 := n0_
                  have HO_9 := n1_
                  have BK163 := n2_
                  have HB := n3_
                  clear n0_ n1_ n2_ n3_
                  have n0_ := Aside0.mk (Kd.R_drew HO_8.out)
                  have n1_ := Aside0.mk (Kd.R_drew HO_9.out)
                  have n2_ := Aside0.mk (blk_drew BK163.out)
                  have n3_ := Aside0.mk (below_drew1 HB.out)
                  clear HO_8
                  clear HO_9
                  clear BK163
                  clear HB
                  have HO_8 := n0_
                  have HO_9 := n1_
                  have BK163 := n2_
                  have HB := n3_
                  clear n0_ n1_ n2_ n3_
                  have p165 : 0 ≤ (((rd_T53 l0 x26_2).f0) : Int) := of_decide_eq_true (by first | (with_reducible assumption) | assumption)
                  have q165 : ((rd_T53 l0 x26_2).f0) < (x8_1.length : Int) := of_decide_eq_true (by first | (with_reducible assumption) | assumption)
                  obtain ⟨ad165, e165, hx165_0⟩ := Kd.at_int (Kd.R_reads' HO_8.out).2.2 ((rd_T53 l0 x26_2).f0) p165 q165
                  obtain rfl : (⟨go8, 0, none⟩ : Addr) = ad165 := (by injection e165)
                  (first | simp only [add_plain] at hx165_0 | simp only [add_at] at hx165_0 | simp only [Addr.add, Nat.zero_add] at hx165_0 | skip)
                  replace p165 := eq_true p165
                  replace q165 := eq_true q165
                  refine start_ (n := 12) (S := fun w' => w'.cell? ⟨gb163, 0, none⟩ = some (.int .i64 ((rd_T53 l0 x26_2).f0)) ∧ w'.cell? ⟨gb163, 1, none⟩ = some (.int .i64 ((rd_T53 l0 x26_2).f1)) ∧ w'.cell? ⟨gb163, 2, none⟩ = some (.int .i64 ((rd_T53 l0 x26_2).f2)) ∧ w'.cell? ⟨gb163, 3, none⟩ = some (.int .i64 ((rd_T53 l0 x26_2).f3)) ∧ w'.cell? ⟨gb163, 4, none⟩ = some (.int .i64 ((rd_T53 l0 x26_2).f4)) ∧ w'.cell? ⟨go8, (((rd_T53 l0 x26_2).f0)).toNat, none⟩ = some (.int .i64 (rd x8_1 ((rd_T53 l0 x26_2).f0)))) (ds := []) #[ff,ff,ff,ff,ff,ff,ff,ff,ff,ff,ff,ff] (by kernel_rfl) rfl rfl ⟨(blk_cell BK163.out 0).trans rfl, (blk_cell BK163.out 1).trans rfl, (blk_cell BK163.out 2).trans rfl, (blk_cell BK163.out 3).trans rfl, (blk_cell BK163.out 4).trans rfl, hx165_0⟩ (fun hHeld => ?_); refine with_tabW impl_reach.tab8 impl_reach.bits8 (fun HT_ HW_ => ?_)
                  generalize w35.drew = w36 at HO_8 HO_9 BK163 HB hx165_0 hHeld ⊢
                  refine pure_ (i := 1) (N := some 39) (v := ?_) (a' := ?_) #[ff,tt,ff,ff,ff,ff,ff,ff,ff,ff,ff,ff] rfl rfl (any_of HT_.out (by kernel_rfl)) (fun _ _ _ h => h) (Or.inl ⟨by rfl, ?_⟩) ?_ ?_
                  rotate_left
                  ·intro w'
                   go_simp
                   with_reducible rfl
                  rotate_left
                  ·simp only [Act.put, List.setIfInBounds_toArray, List.set_cons_zero, List.set_cons_succ, i64_w, i32_w]
                   rfl
                  refine pure_ (i := 2) (N := some 40) (v := ?_) (a' := ?_) #[ff,tt,tt,ff,ff,ff,ff,ff,ff,ff,ff,ff] rfl rfl (any_of HT_.out (by kernel_rfl)) (fun _ _ _ h => h) (Or.inl ⟨by rfl, ?_⟩) ?_ ?_
                  rotate_left
                  ·intro w'
                   go_simp
                   with_reducible rfl
                  rotate_left
                  ·simp only [Act.put, List.setIfInBounds_toArray, List.set_cons_zero, List.set_cons_succ, i64_w, i32_w]
                   rfl
                  refine take_ (i := 0) (N := some 38) (v := ?_) (a' := ?_) #[tt,tt,tt,ff,ff,ff,ff,ff,ff,ff,ff,ff] rfl rfl (take_ofW HT_.out HW_.out (by kernel_rfl)) (fun _ _ _ h => h) (Or.inl ⟨by rfl, ?_⟩) hHeld ?_ ?_
                  rotate_left
                  ·rintro w' ⟨s0, s1, s2, s3, s4, s5⟩
                   go_simp
                   with_reducible rfl
                  rotate_left
                  ·simp only [Act.put, List.setIfInBounds_toArray, List.set_cons_zero, List.set_cons_succ, i64_w, i32_w]
                   rfl
                  refine take_ (i := 3) (N := some 41) (v := ?_) (a' := ?_) #[tt,tt,tt,tt,ff,ff,ff,ff,ff,ff,ff,ff] rfl rfl (take_ofW HT_.out HW_.out (by kernel_rfl)) (fun _ _ _ h => h) (Or.inl ⟨by rfl, ?_⟩) hHeld ?_ ?_
                  rotate_left
                  ·rintro w' ⟨s0, s1, s2, s3, s4, s5⟩
                   go_simp
                   with_reducible rfl
                  rotate_left
                  ·simp only [Act.put, List.setIfInBounds_toArray, List.set_cons_zero, List.set_cons_succ, i64_w, i32_w]
                   rfl
                  refine pure_ (i := 4) (N := some 42) (v := ?_) (a' := ?_) #[tt,tt,tt,tt,tt,ff,ff,ff,ff,ff,ff,ff] rfl rfl (any_of HT_.out (by kernel_rfl)) (fun _ _ _ h => h) (Or.inl ⟨by rfl, ?_⟩) ?_ ?_
                  rotate_left
                  ·intro w'
                   go_simp
                   with_reducible rfl
                  rotate_left
                  ·simp only [Act.put, List.setIfInBounds_toArray, List.set_cons_zero, List.set_cons_succ, i64_w, i32_w]
                   rfl
                  refine take_ (i := 5) (N := some 43) (v := ?_) (a' := ?_) #[tt,tt,tt,tt,tt,tt,ff,ff,ff,ff,ff,ff] rfl rfl (take_ofW HT_.out HW_.out (by kernel_rfl)) (fun _ _ _ h => h) (Or.inl ⟨by rfl, ?_⟩) hHeld ?_ ?_
                  rotate_left
                  ·rintro w' ⟨s0, s1, s2, s3, s4, s5⟩
                   go_simp
                   with_reducible rfl
                  rotate_left
                  ·simp only [Act.put, List.setIfInBounds_toArray, List.set_cons_zero, List.set_cons_succ, i64_w, i32_w]
                   rfl
                  refine one_ (i := 6) (N := some 44) #[tt,tt,tt,tt,tt,tt,tt,ff,ff,ff,ff,ff] rfl rfl (one_of HT_.out (by kernel_rfl)) (by decide) (fun K hK => ?_)
                  refine goes_ Try.func64 (by kernel_rfl) rfl #[.agg #[.int .i64 ((rd_T53 l0 x26_2).f0), .int .i64 ((rd_T53 l0 x26_2).f1), .int .i64 ((rd_T53 l0 x26_2).f2), .int .i64 ((rd_T53 l0 x26_2).f3), .int .i64 ((rd_T53 l0 x26_2).f4)], .int .i64 (rd x8_1 ((rd_T53 l0 x26_2).f0))] (by rfl) rfl rfl (by (try simp only [List.map_toArray, List.map_cons, List.map_nil]); first | done | rfl | (simp only [List.length_drop, List.length_take]; rfl)) ?_
                  with_reducible refine (impl_Contact_by.calls ((rd_T53 l0 x26_2).f0) ((rd_T53 l0 x26_2).f1) ((rd_T53 l0 x26_2).f2) ((rd_T53 l0 x26_2).f3) ((rd_T53 l0 x26_2).f4) (rd x8_1 ((rd_T53 l0 x26_2).f0)) t166 true _ A27.out).mono ?_
                  rintro e w37 ⟨rfl, hb⟩
                  have HS5_ := (hb.cell (World.block_lt_of_cell? _ _ (hHeld.2.2.2.2.2))).trans (hHeld.2.2.2.2.2)
                  refine ⟨_, rfl, ?_⟩
                  have n0_ := Aside0.mk (Kd.R_below (by (with_reducible repeat (first | apply Kd.R_alloc | apply Kd.R_drewN | apply Kd.R_drew)); exact HO_8.out) hb)
                  have n1_ := Aside0.mk (Kd.R_below (by (with_reducible repeat (first | apply Kd.R_alloc | apply Kd.R_drewN | apply Kd.R_drew)); exact HO_9.out) hb)
                  have n2_ := Aside0.mk (blk_below (g := gb163) (o := .cells #[.int .i64 ((rd_T53 l0 x26_2).f0), .int .i64 ((rd_T53 l0 x26_2).f1), .int .i64 ((rd_T53 l0 x26_2).f2), .int .i64 ((rd_T53 l0 x26_2).f3), .int .i64 ((rd_T53 l0 x26_2).f4)] 53 (0, 0)) (by (with_reducible repeat (first | refine blk_drewN ?_ _ | refine blk_drew ?_ | refine blk_alloc ?_ _)); exact BK163.out) hb)
                  have n3_ := Aside0.mk (below_step (by repeat (first | (with_reducible first | exact HB.out | apply below_alloc | apply pw_below_drewN | apply below_drew1 | refine below_set ?_ GE163.out) | exact HB.out | (with_reducible exact Below.refl _ _))) hb)
                  clear HO_8
                  clear HO_9
                  clear BK163
                  clear HB
                  have HO_8 := n0_
                  have HO_9 := n1_
                  have BK163 := n2_
                  have HB := n3_
                  clear n0_ n1_ n2_ n3_
                  (try clear hb)
                  (try clear hb2)
                  (try clear hk)
                  (try clear hi)
                  refine hK.out _ _ ⟨(blk_cell BK163.out 0).trans rfl, (blk_cell BK163.out 1).trans rfl, (blk_cell BK163.out 2).trans rfl, (blk_cell BK163.out 3).trans rfl, (blk_cell BK163.out 4).trans rfl, HS5_⟩ (fun hHeld => ?_)
                  clear hK K
                  refine norm_ (a' := ?_) ?_ ?_
                  rotate_left
                  ·show Act.put _ (some 44) _ = _
                   simp only [Act.put, List.setIfInBounds_toArray, List.set_cons_zero, List.set_cons_succ, i64_w, i32_w]
                   rfl
                  refine pure_ (i := 7) (N := some 37) (v := ?_) (a' := ?_) #[tt,tt,tt,tt,tt,tt,tt,tt,ff,ff,ff,ff] rfl rfl (any_of HT_.out (by kernel_rfl)) (fun _ _ _ h => h) (Or.inl ⟨by rfl, ?_⟩) ?_ ?_
                  rotate_left
                  ·intro w'
                   go_simp
                   with_reducible rfl
                  rotate_left
                  ·simp only [Act.put, List.setIfInBounds_toArray, List.set_cons_zero, List.set_cons_succ, i64_w, i32_w]
                   rfl
                  refine pure_ (i := 8) (N := some 45) (v := ?_) (a' := ?_) #[tt,tt,tt,tt,tt,tt,tt,tt,tt,ff,ff,ff] rfl rfl (any_of HT_.out (by kernel_rfl)) (fun _ _ _ h => h) (Or.inl ⟨by rfl, ?_⟩) ?_ ?_
                  rotate_left
                  ·intro w'
                   go_simp
                   with_reducible rfl
                  rotate_left
                  ·simp only [Act.put, List.setIfInBounds_toArray, List.set_cons_zero, List.set_cons_succ, i64_w, i32_w]
                   rfl
                  refine pure_ (i := 9) (N := some 46) (v := ?_) (a' := ?_) #[tt,tt,tt,tt,tt,tt,tt,tt,tt,tt,ff,ff] rfl rfl (any_of HT_.out (by kernel_rfl)) (fun _ _ _ h => h) (Or.inl ⟨by rfl, ?_⟩) ?_ ?_
                  rotate_left
                  ·intro w'
                   go_simp
                   with_reducible rfl
                  rotate_left
                  ·simp only [Act.put, List.setIfInBounds_toArray, List.set_cons_zero, List.set_cons_succ, i64_w, i32_w]
                   rfl
                  refine pure_ (i := 10) (N := some 14) (v := ?_) (a' := ?_) #[tt,tt,tt,tt,tt,tt,tt,tt,tt,tt,tt,ff] rfl rfl (any_of HT_.out (by kernel_rfl)) (fun _ _ _ h => h) (Or.inl ⟨by rfl, ?_⟩) ?_ ?_
                  rotate_left
                  ·intro w'
                   go_simp
                   with_reducible rfl
                  rotate_left
                  ·simp only [Act.put, List.setIfInBounds_toArray, List.set_cons_zero, List.set_cons_succ, i64_w, i32_w]
                   rfl
                  refine pure_ (i := 11) (N := some 15) (v := ?_) (a' := ?_) #[tt,tt,tt,tt,tt,tt,tt,tt,tt,tt,tt,tt] rfl rfl (any_of HT_.out (by kernel_rfl)) (fun _ _ _ h => h) (Or.inl ⟨by rfl, ?_⟩) ?_ ?_
                  rotate_left
                  ·intro w'
                   go_simp
                   with_reducible rfl
                  rotate_left
                  ·simp only [Act.put, List.setIfInBounds_toArray, List.set_cons_zero, List.set_cons_succ, i64_w, i32_w]
                   rfl
                  refine done_ (done_of HT_.out (by kernel_rfl)) ?_
                  have hcz38_0 : w37.cell? ⟨gb163, 0, none⟩ = some (.int .i64 ((rd_T53 l0 x26_2).f0)) := (blk_cell BK163.out 0).trans rfl
                  have hcz38_1 : w37.cell? ⟨gb163, 1, none⟩ = some (.int .i64 ((rd_T53 l0 x26_2).f1)) := (blk_cell BK163.out 1).trans rfl
                  have hcz38_2 : w37.cell? ⟨gb163, 2, none⟩ = some (.int .i64 ((rd_T53 l0 x26_2).f2)) := (blk_cell BK163.out 2).trans rfl
                  have hcz38_3 : w37.cell? ⟨gb163, 3, none⟩ = some (.int .i64 ((rd_T53 l0 x26_2).f3)) := (blk_cell BK163.out 3).trans rfl
                  have hcz38_4 : w37.cell? ⟨gb163, 4, none⟩ = some (.int .i64 ((rd_T53 l0 x26_2).f4)) := (blk_cell BK163.out 4).trans rfl
                  have hfz38_0 := blk_frozen BK163.out 0
                  have hfz38_1 := blk_frozen BK163.out 1
                  have hfz38_2 := blk_frozen BK163.out 2
                  have hfz38_3 := blk_frozen BK163.out 3
                  have hfz38_4 := blk_frozen BK163.out 4
                  have p168 : 0 ≤ (((rd_T53 l0 x26_2).f1) : Int) := of_decide_eq_true (by first | (with_reducible assumption) | assumption)
                  have q168 : ((rd_T53 l0 x26_2).f1) < (x8_1.length : Int) := of_decide_eq_true (by first | (with_reducible assumption) | assumption)
                  obtain ⟨ad168, e168, hx168_0⟩ := Kd.at_int (Kd.R_reads' HO_8.out).2.2 ((rd_T53 l0 x26_2).f1) p168 q168
                  obtain rfl : (⟨go8, 0, none⟩ : Addr) = ad168 := (by injection e168)
                  (first | simp only [add_plain] at hx168_0 | simp only [add_at] at hx168_0 | simp only [Addr.add, Nat.zero_add] at hx168_0 | skip)
                  replace p168 := eq_true p168
                  replace q168 := eq_true q168
                  try go_wp2
                  go_roundg k2
                  case measure => have := HK1.out; have := HK2.out; omega
                  case rel => exact ⟨(x26_2), (t166), (wrap64 (x26_2 + 1)), (by first | rfl | (simp; done) | (simp [*]; done)), (by first | rfl | (simp; done) | (simp [*]; done)), (by first | rfl | (simp; done) | (simp [*]; done)), H', ⟨by have := HK1.out; have := HK2.out; omega⟩, ⟨by (try simp only [hl8_1]); (with_reducible repeat (first | apply Kd.R_alloc | apply Kd.R_drewN | apply Kd.R_drew)); exact HO_8.out⟩, ⟨by (try simp only [hl8_1]); (with_reducible repeat (first | apply Kd.R_alloc | apply Kd.R_drewN | apply Kd.R_drew)); exact HO_9.out⟩, ⟨by repeat (first | (with_reducible first | exact HB.out | apply below_alloc | apply pw_below_drewN | apply below_drew1 | refine below_set ?_ GE163.out) | exact HB.out | (with_reducible exact Below.refl _ _))⟩⟩
                 ·rw [if_neg c32] at H
                  have c32b0 : decide (x10_2 < 0) = false := decide_eq_false c32
                  clear c32
                  by_cases c39 : t166 < x11_2
                  ·rw [if_pos c39] at H
                   have c39b0 : decide (t166 < x11_2) = true := decide_eq_true c39
                   clear c39
                   have H' := Aside0.mk H
                   clear H
                   have p162 : 0 ≤ (x26_2 : Int) := of_decide_eq_true (by first | (with_reducible assumption) | assumption)
                   have q162 : x26_2 < (l0.length : Int) := of_decide_eq_true (by first | (with_reducible assumption) | assumption)
                   obtain ⟨ad162, e162, hx162_0, hx162_1, hx162_2, hx162_3, hx162_4⟩ := at_T53 HR0.out x26_2 p162 q162
                   cases e162
                   replace hx162_0 := (HB.out.cell (World.block_lt_of_cell? w _ hx162_0)).trans hx162_0
                   replace hx162_1 := (HB.out.cell (World.block_lt_of_cell? w _ hx162_1)).trans hx162_1
                   replace hx162_2 := (HB.out.cell (World.block_lt_of_cell? w _ hx162_2)).trans hx162_2
                   replace hx162_3 := (HB.out.cell (World.block_lt_of_cell? w _ hx162_3)).trans hx162_3
                   replace hx162_4 := (HB.out.cell (World.block_lt_of_cell? w _ hx162_4)).trans hx162_4
                   replace p162 := eq_true p162
                   replace q162 := eq_true q162
                   try go_wp2_with (first | ((with_reducible refine gate_dst (N := 13) rfl ?_); refine box_event ?hg (N := 13) ?hd (cs := #[.int .i64 0, .int .i64 0, .int .i64 0, .int .i64 0, .int .i64 0]) (t := 53) ?hr ?_; (case hd => rfl); (case hg => rfl); (case hr => first | (go_simp; done) | (go_simp; rfl)); intro gb163 hg w40 hbox hb; have n0_ := Aside0.mk (Kd.R_below (by (with_reducible repeat (first | apply Kd.R_alloc | apply Kd.R_drewN | apply Kd.R_drew)); exact HO_8.out) hb); have n1_ := Aside0.mk (Kd.R_below (by (with_reducible repeat (first | apply Kd.R_alloc | apply Kd.R_drewN | apply Kd.R_drew)); exact HO_9.out) hb); have n2_ := Aside0.mk (below_step (by repeat (first | (with_reducible first | exact HB.out | apply below_alloc | apply pw_below_drewN | apply below_drew1) | exact HB.out | (with_reducible exact Below.refl _ _))) hb); have n3_ := Aside0.mk (hbox); have n4_ := Aside0.mk ((by rw [hg]; exact (below_size (by repeat (first | (with_reducible first | exact HB.out | apply below_alloc | apply pw_below_drewN | apply below_drew1) | exact HB.out | (with_reducible exact Below.refl _ _)))) : w.heap.size ≤ gb163)); have n5_ := Aside0.mk ((by rw [hg]; exact (below_size (by repeat (first | (with_reducible first | exact HB.out | apply below_alloc | apply pw_below_drewN | apply below_drew1) | exact HB.out | (with_reducible exact Below.refl _ _)))) : w.heap.size ≤ gb163)); clear HO_8; clear HO_9; clear HB; have HO_8 := n0_; have HO_9 := n1_; have HB := n2_; have BK163 := n3_; have GW163 := n4_; have GE163 := n5_; clear n0_ n1_ n2_ n3_ n4_ n5_; clear hb hbox hg; have hcz41_0 : w40.cell? ⟨gb163, 0, none⟩ = some (.int .i64 0) := (blk_cell BK163.out 0).trans rfl; have hcz41_1 : w40.cell? ⟨gb163, 1, none⟩ = some (.int .i64 0) := (blk_cell BK163.out 1).trans rfl; have hcz41_2 : w40.cell? ⟨gb163, 2, none⟩ = some (.int .i64 0) := (blk_cell BK163.out 2).trans rfl; have hcz41_3 : w40.cell? ⟨gb163, 3, none⟩ = some (.int .i64 0) := (blk_cell BK163.out 3).trans rfl; have hcz41_4 : w40.cell? ⟨gb163, 4, none⟩ = some (.int .i64 0) := (blk_cell BK163.out 4).trans rfl; have hfz41_0 := blk_frozen BK163.out 0; have hfz41_1 := blk_frozen BK163.out 1; have hfz41_2 := blk_frozen BK163.out 2; have hfz41_3 := blk_frozen BK163.out 3; have hfz41_4 := blk_frozen BK163.out 4; have p164 : 0 ≤ (((rd_T53 l0 x26_2).f0) : Int) := of_decide_eq_true (by first | (with_reducible assumption) | assumption); have q164 : ((rd_T53 l0 x26_2).f0) < (x8_1.length : Int) := of_decide_eq_true (by first | (with_reducible assumption) | assumption); obtain ⟨ad164, e164, hx164_0⟩ := Kd.at_int (Kd.R_reads' HO_8.out).2.2 ((rd_T53 l0 x26_2).f0) p164 q164; obtain rfl : (⟨go8, 0, none⟩ : Addr) = ad164 := (by injection e164); (first | simp only [add_plain] at hx164_0 | simp only [add_at] at hx164_0 | simp only [Addr.add, Nat.zero_add] at hx164_0 | skip); have hn164_0 : (⟨go8, 0, none⟩ : Addr).block ≠ gb163 := Kd.own_blk (Kd.R_ne HO_8.out BK163.out (by decide)); have hn164_1 : (⟨go8, 0, none⟩ : Addr).block ≠ gb163 := Kd.own_blk (Kd.R_ne HO_8.out BK163.out (by decide)); have hn164_2 : (⟨go8, 0, none⟩ : Addr).block ≠ gb163 := Kd.own_blk (Kd.R_ne HO_8.out BK163.out (by decide)); have hn164_3 : (⟨go8, 0, none⟩ : Addr).block ≠ gb163 := Kd.own_blk (Kd.R_ne HO_8.out BK163.out (by decide)); have hn164_4 : (⟨go8, 0, none⟩ : Addr).block ≠ gb163 := Kd.own_blk (Kd.R_ne HO_8.out BK163.out (by decide)); replace hx164_0 := (cell_far (p := ⟨gb163, 0, none⟩) (by first | (rw [add_block]; exact hn164_0) | (show (Addr.add _ _).block ≠ _; rw [add_block]; exact hn164_0) | exact hn164_0) (.int .i64 ((rd_T53 l0 x26_2).f0))).trans hx164_0; replace hx164_0 := (cell_far (p := ⟨gb163, 1, none⟩) (by first | (rw [add_block]; exact hn164_1) | (show (Addr.add _ _).block ≠ _; rw [add_block]; exact hn164_1) | exact hn164_1) (.int .i64 ((rd_T53 l0 x26_2).f1))).trans hx164_0; replace hx164_0 := (cell_far (p := ⟨gb163, 2, none⟩) (by first | (rw [add_block]; exact hn164_2) | (show (Addr.add _ _).block ≠ _; rw [add_block]; exact hn164_2) | exact hn164_2) (.int .i64 ((rd_T53 l0 x26_2).f2))).trans hx164_0; replace hx164_0 := (cell_far (p := ⟨gb163, 3, none⟩) (by first | (rw [add_block]; exact hn164_3) | (show (Addr.add _ _).block ≠ _; rw [add_block]; exact hn164_3) | exact hn164_3) (.int .i64 ((rd_T53 l0 x26_2).f3))).trans hx164_0; replace hx164_0 := (cell_far (p := ⟨gb163, 4, none⟩) (by first | (rw [add_block]; exact hn164_4) | (show (Addr.add _ _).block ≠ _; rw [add_block]; exact hn164_4) | exact hn164_4) (.int .i64 ((rd_T53 l0 x26_2).f4))).trans hx164_0; clear hn164_0; clear hn164_1; clear hn164_2; clear hn164_3; clear hn164_4; replace p164 := eq_true p164; replace q164 := eq_true q164))
                   have n0_ : Aside0 (Kd.R (Kd.int .i64) 3 (((((w40.setCell ⟨gb163, 0, none⟩ (.int .i64 ((rd_T53 l0 x26_2).f0))).setCell ⟨gb163, 1, none⟩ (.int .i64 ((rd_T53 l0 x26_2).f1))).setCell ⟨gb163, 2, none⟩ (.int .i64 ((rd_T53 l0 x26_2).f2))).setCell ⟨gb163, 3, none⟩ (.int .i64 ((rd_T53 l0 x26_2).f3))).setCell ⟨gb163, 4, none⟩ (.int .i64 ((rd_T53 l0 x26_2).f4))) w.heap.size (fun k_ => some k_ ≠ (v155 : Value).ownBlock) (.slice (some ⟨go8, 0, none⟩) x8_1.length co8) x8_1) := ⟨by (with_reducible repeat (first | apply Kd.R_alloc | apply Kd.R_drewN | apply Kd.R_drew)); exact Kd.R_mono (Kd.R_far (p := ⟨gb163, 4, none⟩) (Kd.R_far (p := ⟨gb163, 3, none⟩) (Kd.R_far (p := ⟨gb163, 2, none⟩) (Kd.R_far (p := ⟨gb163, 1, none⟩) (Kd.R_far (p := ⟨gb163, 0, none⟩) (Kd.R_types HO_8.out BK163.out (by decide)) (fun _ hk => hk.2) (.int .i64 ((rd_T53 l0 x26_2).f0))) (fun _ hk => hk.2) (.int .i64 ((rd_T53 l0 x26_2).f1))) (fun _ hk => hk.2) (.int .i64 ((rd_T53 l0 x26_2).f2))) (fun _ hk => hk.2) (.int .i64 ((rd_T53 l0 x26_2).f3))) (fun _ hk => hk.2) (.int .i64 ((rd_T53 l0 x26_2).f4))) (fun _ hk => hk.1)⟩
                   have n1_ : Aside0 (Kd.R (Kd.int .i64) 3 (((((w40.setCell ⟨gb163, 0, none⟩ (.int .i64 ((rd_T53 l0 x26_2).f0))).setCell ⟨gb163, 1, none⟩ (.int .i64 ((rd_T53 l0 x26_2).f1))).setCell ⟨gb163, 2, none⟩ (.int .i64 ((rd_T53 l0 x26_2).f2))).setCell ⟨gb163, 3, none⟩ (.int .i64 ((rd_T53 l0 x26_2).f3))).setCell ⟨gb163, 4, none⟩ (.int .i64 ((rd_T53 l0 x26_2).f4))) w.heap.size (fun k_ => some k_ ≠ (.slice (some ⟨go8, 0, none⟩) x8_1.length co8 : Value).ownBlock) v155 x9_1) := ⟨by (with_reducible repeat (first | apply Kd.R_alloc | apply Kd.R_drewN | apply Kd.R_drew)); exact Kd.R_mono (Kd.R_far (p := ⟨gb163, 4, none⟩) (Kd.R_far (p := ⟨gb163, 3, none⟩) (Kd.R_far (p := ⟨gb163, 2, none⟩) (Kd.R_far (p := ⟨gb163, 1, none⟩) (Kd.R_far (p := ⟨gb163, 0, none⟩) (Kd.R_types HO_9.out BK163.out (by decide)) (fun _ hk => hk.2) (.int .i64 ((rd_T53 l0 x26_2).f0))) (fun _ hk => hk.2) (.int .i64 ((rd_T53 l0 x26_2).f1))) (fun _ hk => hk.2) (.int .i64 ((rd_T53 l0 x26_2).f2))) (fun _ hk => hk.2) (.int .i64 ((rd_T53 l0 x26_2).f3))) (fun _ hk => hk.2) (.int .i64 ((rd_T53 l0 x26_2).f4))) (fun _ hk => hk.1)⟩
                   have n2_ : Aside0 ((((((w40.setCell ⟨gb163, 0, none⟩ (.int .i64 ((rd_T53 l0 x26_2).f0))).setCell ⟨gb163, 1, none⟩ (.int .i64 ((rd_T53 l0 x26_2).f1))).setCell ⟨gb163, 2, none⟩ (.int .i64 ((rd_T53 l0 x26_2).f2))).setCell ⟨gb163, 3, none⟩ (.int .i64 ((rd_T53 l0 x26_2).f3))).setCell ⟨gb163, 4, none⟩ (.int .i64 ((rd_T53 l0 x26_2).f4))).heap[gb163]? = some (.cells #[.int .i64 ((rd_T53 l0 x26_2).f0), .int .i64 ((rd_T53 l0 x26_2).f1), .int .i64 ((rd_T53 l0 x26_2).f2), .int .i64 ((rd_T53 l0 x26_2).f3), .int .i64 ((rd_T53 l0 x26_2).f4)] 53 (0, 0))) := ⟨by (with_reducible repeat (first | refine blk_drewN ?_ _ | refine blk_drew ?_ | refine blk_alloc ?_ _)); refine blk_put (cs := #[.int .i64 ((rd_T53 l0 x26_2).f0), .int .i64 ((rd_T53 l0 x26_2).f1), .int .i64 ((rd_T53 l0 x26_2).f2), .int .i64 ((rd_T53 l0 x26_2).f3), .int .i64 0]) ?_ 4 _ rfl; (with_reducible repeat (first | refine blk_drewN ?_ _ | refine blk_drew ?_ | refine blk_alloc ?_ _)); refine blk_put (cs := #[.int .i64 ((rd_T53 l0 x26_2).f0), .int .i64 ((rd_T53 l0 x26_2).f1), .int .i64 ((rd_T53 l0 x26_2).f2), .int .i64 0, .int .i64 0]) ?_ 3 _ rfl; (with_reducible repeat (first | refine blk_drewN ?_ _ | refine blk_drew ?_ | refine blk_alloc ?_ _)); refine blk_put (cs := #[.int .i64 ((rd_T53 l0 x26_2).f0), .int .i64 ((rd_T53 l0 x26_2).f1), .int .i64 0, .int .i64 0, .int .i64 0]) ?_ 2 _ rfl; (with_reducible repeat (first | refine blk_drewN ?_ _ | refine blk_drew ?_ | refine blk_alloc ?_ _)); refine blk_put (cs := #[.int .i64 ((rd_T53 l0 x26_2).f0), .int .i64 0, .int .i64 0, .int .i64 0, .int .i64 0]) ?_ 1 _ rfl; (with_reducible repeat (first | refine blk_drewN ?_ _ | refine blk_drew ?_ | refine blk_alloc ?_ _)); refine blk_put (cs := #[.int .i64 0, .int .i64 0, .int .i64 0, .int .i64 0, .int .i64 0]) ?_ 0 _ rfl; (with_reducible repeat (first | refine blk_drewN ?_ _ | refine blk_drew ?_ | refine blk_alloc ?_ _)); exact BK163.out⟩
                   have n3_ : Aside0 (Below w.heap.size w (((((w40.setCell ⟨gb163, 0, none⟩ (.int .i64 ((rd_T53 l0 x26_2).f0))).setCell ⟨gb163, 1, none⟩ (.int .i64 ((rd_T53 l0 x26_2).f1))).setCell ⟨gb163, 2, none⟩ (.int .i64 ((rd_T53 l0 x26_2).f2))).setCell ⟨gb163, 3, none⟩ (.int .i64 ((rd_T53 l0 x26_2).f3))).setCell ⟨gb163, 4, none⟩ (.int .i64 ((rd_T53 l0 x26_2).f4)))) := ⟨by repeat (first | (with_reducible first | exact HB.out | apply below_alloc | apply pw_below_drewN | apply below_drew1 | refine below_set ?_ GE163.out) | exact HB.out | (with_reducible exact Below.refl _ _))⟩
                   (try clear HO_8)
                   (try clear HO_9)
                   (try clear BK163)
                   (try clear HB)
                   generalize (((((w40.setCell ⟨gb163, 0, none⟩ (.int .i64 ((rd_T53 l0 x26_2).f0))).setCell ⟨gb163, 1, none⟩ (.int .i64 ((rd_T53 l0 x26_2).f1))).setCell ⟨gb163, 2, none⟩ (.int .i64 ((rd_T53 l0 x26_2).f2))).setCell ⟨gb163, 3, none⟩ (.int .i64 ((rd_T53 l0 x26_2).f3))).setCell ⟨gb163, 4, none⟩ (.int .i64 ((rd_T53 l0 x26_2).f4))) = w42 at n0_ n1_ n2_ n3_ ⊢
                   have HO_8 := n0_
                   have HO_9 := n1_
                   have BK163 := n2_
                   have HB := n3_
                   clear n0_ n1_ n2_ n3_
                   have n0_ := Aside0.mk (Kd.R_drew HO_8.out)
                   have n1_ := Aside0.mk (Kd.R_drew HO_9.out)
                   have n2_ := Aside0.mk (blk_drew BK163.out)
                   have n3_ := Aside0.mk (below_drew1 HB.out)
                   clear HO_8
                   clear HO_9
                   clear BK163
                   clear HB
                   have HO_8 := n0_
                   have HO_9 := n1_
                   have BK163 := n2_
                   have HB := n3_
                   clear n0_ n1_ n2_ n3_
                   have p165 : 0 ≤ (((rd_T53 l0 x26_2).f0) : Int) := of_decide_eq_true (by first | (with_reducible assumption) | assumption)
                   have q165 : ((rd_T53 l0 x26_2).f0) < (x8_1.length : Int) := of_decide_eq_true (by first | (with_reducible assumption) | assumption)
                   obtain ⟨ad165, e165, hx165_0⟩ := Kd.at_int (Kd.R_reads' HO_8.out).2.2 ((rd_T53 l0 x26_2).f0) p165 q165
                   obtain rfl : (⟨go8, 0, none⟩ : Addr) = ad165 := (by injection e165)
                   (first | simp only [add_plain] at hx165_0 | simp only [add_at] at hx165_0 | simp only [Addr.add, Nat.zero_add] at hx165_0 | skip)
                   replace p165 := eq_true p165
                   replace q165 := eq_true q165
                   refine start_ (n := 12) (S := fun w' => w'.cell? ⟨gb163, 0, none⟩ = some (.int .i64 ((rd_T53 l0 x26_2).f0)) ∧ w'.cell? ⟨gb163, 1, none⟩ = some (.int .i64 ((rd_T53 l0 x26_2).f1)) ∧ w'.cell? ⟨gb163, 2, none⟩ = some (.int .i64 ((rd_T53 l0 x26_2).f2)) ∧ w'.cell? ⟨gb163, 3, none⟩ = some (.int .i64 ((rd_T53 l0 x26_2).f3)) ∧ w'.cell? ⟨gb163, 4, none⟩ = some (.int .i64 ((rd_T53 l0 x26_2).f4)) ∧ w'.cell? ⟨go8, (((rd_T53 l0 x26_2).f0)).toNat, none⟩ = some (.int .i64 (rd x8_1 ((rd_T53 l0 x26_2).f0)))) (ds := []) #[ff,ff,ff,ff,ff,ff,ff,ff,ff,ff,ff,ff] (by kernel_rfl) rfl rfl ⟨(blk_cell BK163.out 0).trans rfl, (blk_cell BK163.out 1).trans rfl, (blk_cell BK163.out 2).trans rfl, (blk_cell BK163.out 3).trans rfl, (blk_cell BK163.out 4).trans rfl, hx165_0⟩ (fun hHeld => ?_); refine with_tabW impl_reach.tab8 impl_reach.bits8 (fun HT_ HW_ => ?_)
                   generalize w42.drew = w43 at HO_8 HO_9 BK163 HB hx165_0 hHeld ⊢
                   refine pure_ (i := 1) (N := some 39) (v := ?_) (a' := ?_) #[ff,tt,ff,ff,ff,ff,ff,ff,ff,ff,ff,ff] rfl rfl (any_of HT_.out (by kernel_rfl)) (fun _ _ _ h => h) (Or.inl ⟨by rfl, ?_⟩) ?_ ?_
                   rotate_left
                   ·intro w'
                    go_simp
                    with_reducible rfl
                   rotate_left
                   ·simp only [Act.put, List.setIfInBounds_toArray, List.set_cons_zero, List.set_cons_succ, i64_w, i32_w]
                    rfl
                   refine pure_ (i := 2) (N := some 40) (v := ?_) (a' := ?_) #[ff,tt,tt,ff,ff,ff,ff,ff,ff,ff,ff,ff] rfl rfl (any_of HT_.out (by kernel_rfl)) (fun _ _ _ h => h) (Or.inl ⟨by rfl, ?_⟩) ?_ ?_
                   rotate_left
                   ·intro w'
                    go_simp
                    with_reducible rfl
                   rotate_left
                   ·simp only [Act.put, List.setIfInBounds_toArray, List.set_cons_zero, List.set_cons_succ, i64_w, i32_w]
                    rfl
                   refine take_ (i := 0) (N := some 38) (v := ?_) (a' := ?_) #[tt,tt,tt,ff,ff,ff,ff,ff,ff,ff,ff,ff] rfl rfl (take_ofW HT_.out HW_.out (by kernel_rfl)) (fun _ _ _ h => h) (Or.inl ⟨by rfl, ?_⟩) hHeld ?_ ?_
                   rotate_left
                   ·rintro w' ⟨s0, s1, s2, s3, s4, s5⟩
                    go_simp
                    with_reducible rfl
                   rotate_left
                   ·simp only [Act.put, List.setIfInBounds_toArray, List.set_cons_zero, List.set_cons_succ, i64_w, i32_w]
                    rfl
                   refine take_ (i := 3) (N := some 41) (v := ?_) (a' := ?_) #[tt,tt,tt,tt,ff,ff,ff,ff,ff,ff,ff,ff] rfl rfl (take_ofW HT_.out HW_.out (by kernel_rfl)) (fun _ _ _ h => h) (Or.inl ⟨by rfl, ?_⟩) hHeld ?_ ?_
                   rotate_left
                   ·rintro w' ⟨s0, s1, s2, s3, s4, s5⟩
                    go_simp
                    with_reducible rfl
                   rotate_left
                   ·simp only [Act.put, List.setIfInBounds_toArray, List.set_cons_zero, List.set_cons_succ, i64_w, i32_w]
                    rfl
                   refine pure_ (i := 4) (N := some 42) (v := ?_) (a' := ?_) #[tt,tt,tt,tt,tt,ff,ff,ff,ff,ff,ff,ff] rfl rfl (any_of HT_.out (by kernel_rfl)) (fun _ _ _ h => h) (Or.inl ⟨by rfl, ?_⟩) ?_ ?_
                   rotate_left
                   ·intro w'
                    go_simp
                    with_reducible rfl
                   rotate_left
                   ·simp only [Act.put, List.setIfInBounds_toArray, List.set_cons_zero, List.set_cons_succ, i64_w, i32_w]
                    rfl
                   refine take_ (i := 5) (N := some 43) (v := ?_) (a' := ?_) #[tt,tt,tt,tt,tt,tt,ff,ff,ff,ff,ff,ff] rfl rfl (take_ofW HT_.out HW_.out (by kernel_rfl)) (fun _ _ _ h => h) (Or.inl ⟨by rfl, ?_⟩) hHeld ?_ ?_
                   rotate_left
                   ·rintro w' ⟨s0, s1, s2, s3, s4, s5⟩
                    go_simp
                    with_reducible rfl
                   rotate_left
                   ·simp only [Act.put, List.setIfInBounds_toArray, List.set_cons_zero, List.set_cons_succ, i64_w, i32_w]
                    rfl
                   refine one_ (i := 6) (N := some 44) #[tt,tt,tt,tt,tt,tt,tt,ff,ff,ff,ff,ff] rfl rfl (one_of HT_.out (by kernel_rfl)) (by decide) (fun K hK => ?_)
                   refine goes_ Try.func64 (by kernel_rfl) rfl #[.agg #[.int .i64 ((rd_T53 l0 x26_2).f0), .int .i64 ((rd_T53 l0 x26_2).f1), .int .i64 ((rd_T53 l0 x26_2).f2), .int .i64 ((rd_T53 l0 x26_2).f3), .int .i64 ((rd_T53 l0 x26_2).f4)], .int .i64 (rd x8_1 ((rd_T53 l0 x26_2).f0))] (by rfl) rfl rfl (by (try simp only [List.map_toArray, List.map_cons, List.map_nil]); first | done | rfl | (simp only [List.length_drop, List.length_take]; rfl)) ?_
                   with_reducible refine (impl_Contact_by.calls ((rd_T53 l0 x26_2).f0) ((rd_T53 l0 x26_2).f1) ((rd_T53 l0 x26_2).f2) ((rd_T53 l0 x26_2).f3) ((rd_T53 l0 x26_2).f4) (rd x8_1 ((rd_T53 l0 x26_2).f0)) t166 true _ A27.out).mono ?_
                   rintro e w44 ⟨rfl, hb⟩
                   have HS5_ := (hb.cell (World.block_lt_of_cell? _ _ (hHeld.2.2.2.2.2))).trans (hHeld.2.2.2.2.2)
                   refine ⟨_, rfl, ?_⟩
                   have n0_ := Aside0.mk (Kd.R_below (by (with_reducible repeat (first | apply Kd.R_alloc | apply Kd.R_drewN | apply Kd.R_drew)); exact HO_8.out) hb)
                   have n1_ := Aside0.mk (Kd.R_below (by (with_reducible repeat (first | apply Kd.R_alloc | apply Kd.R_drewN | apply Kd.R_drew)); exact HO_9.out) hb)
                   have n2_ := Aside0.mk (blk_below (g := gb163) (o := .cells #[.int .i64 ((rd_T53 l0 x26_2).f0), .int .i64 ((rd_T53 l0 x26_2).f1), .int .i64 ((rd_T53 l0 x26_2).f2), .int .i64 ((rd_T53 l0 x26_2).f3), .int .i64 ((rd_T53 l0 x26_2).f4)] 53 (0, 0)) (by (with_reducible repeat (first | refine blk_drewN ?_ _ | refine blk_drew ?_ | refine blk_alloc ?_ _)); exact BK163.out) hb)
                   have n3_ := Aside0.mk (below_step (by repeat (first | (with_reducible first | exact HB.out | apply below_alloc | apply pw_below_drewN | apply below_drew1 | refine below_set ?_ GE163.out) | exact HB.out | (with_reducible exact Below.refl _ _))) hb)
                   clear HO_8
                   clear HO_9
                   clear BK163
                   clear HB
                   have HO_8 := n0_
                   have HO_9 := n1_
                   have BK163 := n2_
                   have HB := n3_
                   clear n0_ n1_ n2_ n3_
                   (try clear hb)
                   (try clear hb2)
                   (try clear hk)
                   (try clear hi)
                   refine hK.out _ _ ⟨(blk_cell BK163.out 0).trans rfl, (blk_cell BK163.out 1).trans rfl, (blk_cell BK163.out 2).trans rfl, (blk_cell BK163.out 3).trans rfl, (blk_cell BK163.out 4).trans rfl, HS5_⟩ (fun hHeld => ?_)
                   clear hK K
                   refine norm_ (a' := ?_) ?_ ?_
                   rotate_left
                   ·show Act.put _ (some 44) _ = _
                    simp only [Act.put, List.setIfInBounds_toArray, List.set_cons_zero, List.set_cons_succ, i64_w, i32_w]
                    rfl
                   refine pure_ (i := 7) (N := some 37) (v := ?_) (a' := ?_) #[tt,tt,tt,tt,tt,tt,tt,tt,ff,ff,ff,ff] rfl rfl (any_of HT_.out (by kernel_rfl)) (fun _ _ _ h => h) (Or.inl ⟨by rfl, ?_⟩) ?_ ?_
                   rotate_left
                   ·intro w'
                    go_simp
                    with_reducible rfl
                   rotate_left
                   ·simp only [Act.put, List.setIfInBounds_toArray, List.set_cons_zero, List.set_cons_succ, i64_w, i32_w]
                    rfl
                   refine pure_ (i := 8) (N := some 45) (v := ?_) (a' := ?_) #[tt,tt,tt,tt,tt,tt,tt,tt,tt,ff,ff,ff] rfl rfl (any_of HT_.out (by kernel_rfl)) (fun _ _ _ h => h) (Or.inl ⟨by rfl, ?_⟩) ?_ ?_
                   rotate_left
                   ·intro w'
                    go_simp
                    with_reducible rfl
                   rotate_left
                   ·simp only [Act.put, List.setIfInBounds_toArray, List.set_cons_zero, List.set_cons_succ, i64_w, i32_w]
                    rfl
                   refine pure_ (i := 9) (N := some 46) (v := ?_) (a' := ?_) #[tt,tt,tt,tt,tt,tt,tt,tt,tt,tt,ff,ff] rfl rfl (any_of HT_.out (by kernel_rfl)) (fun _ _ _ h => h) (Or.inl ⟨by rfl, ?_⟩) ?_ ?_
                   rotate_left
                   ·intro w'
                    go_simp
                    with_reducible rfl
                   rotate_left
                   ·simp only [Act.put, List.setIfInBounds_toArray, List.set_cons_zero, List.set_cons_succ, i64_w, i32_w]
                    rfl
                   refine pure_ (i := 10) (N := some 14) (v := ?_) (a' := ?_) #[tt,tt,tt,tt,tt,tt,tt,tt,tt,tt,tt,ff] rfl rfl (any_of HT_.out (by kernel_rfl)) (fun _ _ _ h => h) (Or.inl ⟨by rfl, ?_⟩) ?_ ?_
                   rotate_left
                   ·intro w'
                    go_simp
                    with_reducible rfl
                   rotate_left
                   ·simp only [Act.put, List.setIfInBounds_toArray, List.set_cons_zero, List.set_cons_succ, i64_w, i32_w]
                    rfl
                   refine pure_ (i := 11) (N := some 15) (v := ?_) (a' := ?_) #[tt,tt,tt,tt,tt,tt,tt,tt,tt,tt,tt,tt] rfl rfl (any_of HT_.out (by kernel_rfl)) (fun _ _ _ h => h) (Or.inl ⟨by rfl, ?_⟩) ?_ ?_
                   rotate_left
                   ·intro w'
                    go_simp
                    with_reducible rfl
                   rotate_left
                   ·simp only [Act.put, List.setIfInBounds_toArray, List.set_cons_zero, List.set_cons_succ, i64_w, i32_w]
                    rfl
                   refine done_ (done_of HT_.out (by kernel_rfl)) ?_
                   have hcz45_0 : w44.cell? ⟨gb163, 0, none⟩ = some (.int .i64 ((rd_T53 l0 x26_2).f0)) := (blk_cell BK163.out 0).trans rfl
                   have hcz45_1 : w44.cell? ⟨gb163, 1, none⟩ = some (.int .i64 ((rd_T53 l0 x26_2).f1)) := (blk_cell BK163.out 1).trans rfl
                   have hcz45_2 : w44.cell? ⟨gb163, 2, none⟩ = some (.int .i64 ((rd_T53 l0 x26_2).f2)) := (blk_cell BK163.out 2).trans rfl
                   have hcz45_3 : w44.cell? ⟨gb163, 3, none⟩ = some (.int .i64 ((rd_T53 l0 x26_2).f3)) := (blk_cell BK163.out 3).trans rfl
                   have hcz45_4 : w44.cell? ⟨gb163, 4, none⟩ = some (.int .i64 ((rd_T53 l0 x26_2).f4)) := (blk_cell BK163.out 4).trans rfl
                   have hfz45_0 := blk_frozen BK163.out 0
                   have hfz45_1 := blk_frozen BK163.out 1
                   have hfz45_2 := blk_frozen BK163.out 2
                   have hfz45_3 := blk_frozen BK163.out 3
                   have hfz45_4 := blk_frozen BK163.out 4
                   have p168 : 0 ≤ (((rd_T53 l0 x26_2).f1) : Int) := of_decide_eq_true (by first | (with_reducible assumption) | assumption)
                   have q168 : ((rd_T53 l0 x26_2).f1) < (x8_1.length : Int) := of_decide_eq_true (by first | (with_reducible assumption) | assumption)
                   obtain ⟨ad168, e168, hx168_0⟩ := Kd.at_int (Kd.R_reads' HO_8.out).2.2 ((rd_T53 l0 x26_2).f1) p168 q168
                   obtain rfl : (⟨go8, 0, none⟩ : Addr) = ad168 := (by injection e168)
                   (first | simp only [add_plain] at hx168_0 | simp only [add_at] at hx168_0 | simp only [Addr.add, Nat.zero_add] at hx168_0 | skip)
                   replace p168 := eq_true p168
                   replace q168 := eq_true q168
                   try go_wp2
                   go_roundg k2
                   case measure => have := HK1.out; have := HK2.out; omega
                   case rel => exact ⟨(x26_2), (t166), (wrap64 (x26_2 + 1)), (by first | rfl | (simp; done) | (simp [*]; done)), (by first | rfl | (simp; done) | (simp [*]; done)), (by first | rfl | (simp; done) | (simp [*]; done)), H', ⟨by have := HK1.out; have := HK2.out; omega⟩, ⟨by (try simp only [hl8_1]); (with_reducible repeat (first | apply Kd.R_alloc | apply Kd.R_drewN | apply Kd.R_drew)); exact HO_8.out⟩, ⟨by (try simp only [hl8_1]); (with_reducible repeat (first | apply Kd.R_alloc | apply Kd.R_drewN | apply Kd.R_drew)); exact HO_9.out⟩, ⟨by repeat (first | (with_reducible first | exact HB.out | apply below_alloc | apply pw_below_drewN | apply below_drew1 | refine below_set ?_ GE163.out) | exact HB.out | (with_reducible exact Below.refl _ _))⟩⟩
                  ·rw [if_neg c39] at H
                   have c39b0 : decide (t166 < x11_2) = false := decide_eq_false c39
                   clear c39
                   have H' := Aside0.mk H
                   clear H
                   have p162 : 0 ≤ (x26_2 : Int) := of_decide_eq_true (by first | (with_reducible assumption) | assumption)
                   have q162 : x26_2 < (l0.length : Int) := of_decide_eq_true (by first | (with_reducible assumption) | assumption)
                   obtain ⟨ad162, e162, hx162_0, hx162_1, hx162_2, hx162_3, hx162_4⟩ := at_T53 HR0.out x26_2 p162 q162
                   cases e162
                   replace hx162_0 := (HB.out.cell (World.block_lt_of_cell? w _ hx162_0)).trans hx162_0
                   replace hx162_1 := (HB.out.cell (World.block_lt_of_cell? w _ hx162_1)).trans hx162_1
                   replace hx162_2 := (HB.out.cell (World.block_lt_of_cell? w _ hx162_2)).trans hx162_2
                   replace hx162_3 := (HB.out.cell (World.block_lt_of_cell? w _ hx162_3)).trans hx162_3
                   replace hx162_4 := (HB.out.cell (World.block_lt_of_cell? w _ hx162_4)).trans hx162_4
                   replace p162 := eq_true p162
                   replace q162 := eq_true q162
                   try go_wp2_with (first | ((with_reducible refine gate_dst (N := 13) rfl ?_); refine box_event ?hg (N := 13) ?hd (cs := #[.int .i64 0, .int .i64 0, .int .i64 0, .int .i64 0, .int .i64 0]) (t := 53) ?hr ?_; (case hd => rfl); (case hg => rfl); (case hr => first | (go_simp; done) | (go_simp; rfl)); intro gb163 hg w46 hbox hb; have n0_ := Aside0.mk (Kd.R_below (by (with_reducible repeat (first | apply Kd.R_alloc | apply Kd.R_drewN | apply Kd.R_drew)); exact HO_8.out) hb); have n1_ := Aside0.mk (Kd.R_below (by (with_reducible repeat (first | apply Kd.R_alloc | apply Kd.R_drewN | apply Kd.R_drew)); exact HO_9.out) hb); have n2_ := Aside0.mk (below_step (by repeat (first | (with_reducible first | exact HB.out | apply below_alloc | apply pw_below_drewN | apply below_drew1) | exact HB.out | (with_reducible exact Below.refl _ _))) hb); have n3_ := Aside0.mk (hbox); have n4_ := Aside0.mk ((by rw [hg]; exact (below_size (by repeat (first | (with_reducible first | exact HB.out | apply below_alloc | apply pw_below_drewN | apply below_drew1) | exact HB.out | (with_reducible exact Below.refl _ _)))) : w.heap.size ≤ gb163)); have n5_ := Aside0.mk ((by rw [hg]; exact (below_size (by repeat (first | (with_reducible first | exact HB.out | apply below_alloc | apply pw_below_drewN | apply below_drew1) | exact HB.out | (with_reducible exact Below.refl _ _)))) : w.heap.size ≤ gb163)); clear HO_8; clear HO_9; clear HB; have HO_8 := n0_; have HO_9 := n1_; have HB := n2_; have BK163 := n3_; have GW163 := n4_; have GE163 := n5_; clear n0_ n1_ n2_ n3_ n4_ n5_; clear hb hbox hg; have hcz47_0 : w46.cell? ⟨gb163, 0, none⟩ = some (.int .i64 0) := (blk_cell BK163.out 0).trans rfl; have hcz47_1 : w46.cell? ⟨gb163, 1, none⟩ = some (.int .i64 0) := (blk_cell BK163.out 1).trans rfl; have hcz47_2 : w46.cell? ⟨gb163, 2, none⟩ = some (.int .i64 0) := (blk_cell BK163.out 2).trans rfl; have hcz47_3 : w46.cell? ⟨gb163, 3, none⟩ = some (.int .i64 0) := (blk_cell BK163.out 3).trans rfl; have hcz47_4 : w46.cell? ⟨gb163, 4, none⟩ = some (.int .i64 0) := (blk_cell BK163.out 4).trans rfl; have hfz47_0 := blk_frozen BK163.out 0; have hfz47_1 := blk_frozen BK163.out 1; have hfz47_2 := blk_frozen BK163.out 2; have hfz47_3 := blk_frozen BK163.out 3; have hfz47_4 := blk_frozen BK163.out 4; have p164 : 0 ≤ (((rd_T53 l0 x26_2).f0) : Int) := of_decide_eq_true (by first | (with_reducible assumption) | assumption); have q164 : ((rd_T53 l0 x26_2).f0) < (x8_1.length : Int) := of_decide_eq_true (by first | (with_reducible assumption) | assumption); obtain ⟨ad164, e164, hx164_0⟩ := Kd.at_int (Kd.R_reads' HO_8.out).2.2 ((rd_T53 l0 x26_2).f0) p164 q164; obtain rfl : (⟨go8, 0, none⟩ : Addr) = ad164 := (by injection e164); (first | simp only [add_plain] at hx164_0 | simp only [add_at] at hx164_0 | simp only [Addr.add, Nat.zero_add] at hx164_0 | skip); have hn164_0 : (⟨go8, 0, none⟩ : Addr).block ≠ gb163 := Kd.own_blk (Kd.R_ne HO_8.out BK163.out (by decide)); have hn164_1 : (⟨go8, 0, none⟩ : Addr).block ≠ gb163 := Kd.own_blk (Kd.R_ne HO_8.out BK163.out (by decide)); have hn164_2 : (⟨go8, 0, none⟩ : Addr).block ≠ gb163 := Kd.own_blk (Kd.R_ne HO_8.out BK163.out (by decide)); have hn164_3 : (⟨go8, 0, none⟩ : Addr).block ≠ gb163 := Kd.own_blk (Kd.R_ne HO_8.out BK163.out (by decide)); have hn164_4 : (⟨go8, 0, none⟩ : Addr).block ≠ gb163 := Kd.own_blk (Kd.R_ne HO_8.out BK163.out (by decide)); replace hx164_0 := (cell_far (p := ⟨gb163, 0, none⟩) (by first | (rw [add_block]; exact hn164_0) | (show (Addr.add _ _).block ≠ _; rw [add_block]; exact hn164_0) | exact hn164_0) (.int .i64 ((rd_T53 l0 x26_2).f0))).trans hx164_0; replace hx164_0 := (cell_far (p := ⟨gb163, 1, none⟩) (by first | (rw [add_block]; exact hn164_1) | (show (Addr.add _ _).block ≠ _; rw [add_block]; exact hn164_1) | exact hn164_1) (.int .i64 ((rd_T53 l0 x26_2).f1))).trans hx164_0; replace hx164_0 := (cell_far (p := ⟨gb163, 2, none⟩) (by first | (rw [add_block]; exact hn164_2) | (show (Addr.add _ _).block ≠ _; rw [add_block]; exact hn164_2) | exact hn164_2) (.int .i64 ((rd_T53 l0 x26_2).f2))).trans hx164_0; replace hx164_0 := (cell_far (p := ⟨gb163, 3, none⟩) (by first | (rw [add_block]; exact hn164_3) | (show (Addr.add _ _).block ≠ _; rw [add_block]; exact hn164_3) | exact hn164_3) (.int .i64 ((rd_T53 l0 x26_2).f3))).trans hx164_0; replace hx164_0 := (cell_far (p := ⟨gb163, 4, none⟩) (by first | (rw [add_block]; exact hn164_4) | (show (Addr.add _ _).block ≠ _; rw [add_block]; exact hn164_4) | exact hn164_4) (.int .i64 ((rd_T53 l0 x26_2).f4))).trans hx164_0; clear hn164_0; clear hn164_1; clear hn164_2; clear hn164_3; clear hn164_4; replace p164 := eq_true p164; replace q164 := eq_true q164))
                   have n0_ : Aside0 (Kd.R (Kd.int .i64) 3 (((((w46.setCell ⟨gb163, 0, none⟩ (.int .i64 ((rd_T53 l0 x26_2).f0))).setCell ⟨gb163, 1, none⟩ (.int .i64 ((rd_T53 l0 x26_2).f1))).setCell ⟨gb163, 2, none⟩ (.int .i64 ((rd_T53 l0 x26_2).f2))).setCell ⟨gb163, 3, none⟩ (.int .i64 ((rd_T53 l0 x26_2).f3))).setCell ⟨gb163, 4, none⟩ (.int .i64 ((rd_T53 l0 x26_2).f4))) w.heap.size (fun k_ => some k_ ≠ (v155 : Value).ownBlock) (.slice (some ⟨go8, 0, none⟩) x8_1.length co8) x8_1) := ⟨by (with_reducible repeat (first | apply Kd.R_alloc | apply Kd.R_drewN | apply Kd.R_drew)); exact Kd.R_mono (Kd.R_far (p := ⟨gb163, 4, none⟩) (Kd.R_far (p := ⟨gb163, 3, none⟩) (Kd.R_far (p := ⟨gb163, 2, none⟩) (Kd.R_far (p := ⟨gb163, 1, none⟩) (Kd.R_far (p := ⟨gb163, 0, none⟩) (Kd.R_types HO_8.out BK163.out (by decide)) (fun _ hk => hk.2) (.int .i64 ((rd_T53 l0 x26_2).f0))) (fun _ hk => hk.2) (.int .i64 ((rd_T53 l0 x26_2).f1))) (fun _ hk => hk.2) (.int .i64 ((rd_T53 l0 x26_2).f2))) (fun _ hk => hk.2) (.int .i64 ((rd_T53 l0 x26_2).f3))) (fun _ hk => hk.2) (.int .i64 ((rd_T53 l0 x26_2).f4))) (fun _ hk => hk.1)⟩
                   have n1_ : Aside0 (Kd.R (Kd.int .i64) 3 (((((w46.setCell ⟨gb163, 0, none⟩ (.int .i64 ((rd_T53 l0 x26_2).f0))).setCell ⟨gb163, 1, none⟩ (.int .i64 ((rd_T53 l0 x26_2).f1))).setCell ⟨gb163, 2, none⟩ (.int .i64 ((rd_T53 l0 x26_2).f2))).setCell ⟨gb163, 3, none⟩ (.int .i64 ((rd_T53 l0 x26_2).f3))).setCell ⟨gb163, 4, none⟩ (.int .i64 ((rd_T53 l0 x26_2).f4))) w.heap.size (fun k_ => some k_ ≠ (.slice (some ⟨go8, 0, none⟩) x8_1.length co8 : Value).ownBlock) v155 x9_1) := ⟨by (with_reducible repeat (first | apply Kd.R_alloc | apply Kd.R_drewN | apply Kd.R_drew)); exact Kd.R_mono (Kd.R_far (p := ⟨gb163, 4, none⟩) (Kd.R_far (p := ⟨gb163, 3, none⟩) (Kd.R_far (p := ⟨gb163, 2, none⟩) (Kd.R_far (p := ⟨gb163, 1, none⟩) (Kd.R_far (p := ⟨gb163, 0, none⟩) (Kd.R_types HO_9.out BK163.out (by decide)) (fun _ hk => hk.2) (.int .i64 ((rd_T53 l0 x26_2).f0))) (fun _ hk => hk.2) (.int .i64 ((rd_T53 l0 x26_2).f1))) (fun _ hk => hk.2) (.int .i64 ((rd_T53 l0 x26_2).f2))) (fun _ hk => hk.2) (.int .i64 ((rd_T53 l0 x26_2).f3))) (fun _ hk => hk.2) (.int .i64 ((rd_T53 l0 x26_2).f4))) (fun _ hk => hk.1)⟩
                   have n2_ : Aside0 ((((((w46.setCell ⟨gb163, 0, none⟩ (.int .i64 ((rd_T53 l0 x26_2).f0))).setCell ⟨gb163, 1, none⟩ (.int .i64 ((rd_T53 l0 x26_2).f1))).setCell ⟨gb163, 2, none⟩ (.int .i64 ((rd_T53 l0 x26_2).f2))).setCell ⟨gb163, 3, none⟩ (.int .i64 ((rd_T53 l0 x26_2).f3))).setCell ⟨gb163, 4, none⟩ (.int .i64 ((rd_T53 l0 x26_2).f4))).heap[gb163]? = some (.cells #[.int .i64 ((rd_T53 l0 x26_2).f0), .int .i64 ((rd_T53 l0 x26_2).f1), .int .i64 ((rd_T53 l0 x26_2).f2), .int .i64 ((rd_T53 l0 x26_2).f3), .int .i64 ((rd_T53 l0 x26_2).f4)] 53 (0, 0))) := ⟨by (with_reducible repeat (first | refine blk_drewN ?_ _ | refine blk_drew ?_ | refine blk_alloc ?_ _)); refine blk_put (cs := #[.int .i64 ((rd_T53 l0 x26_2).f0), .int .i64 ((rd_T53 l0 x26_2).f1), .int .i64 ((rd_T53 l0 x26_2).f2), .int .i64 ((rd_T53 l0 x26_2).f3), .int .i64 0]) ?_ 4 _ rfl; (with_reducible repeat (first | refine blk_drewN ?_ _ | refine blk_drew ?_ | refine blk_alloc ?_ _)); refine blk_put (cs := #[.int .i64 ((rd_T53 l0 x26_2).f0), .int .i64 ((rd_T53 l0 x26_2).f1), .int .i64 ((rd_T53 l0 x26_2).f2), .int .i64 0, .int .i64 0]) ?_ 3 _ rfl; (with_reducible repeat (first | refine blk_drewN ?_ _ | refine blk_drew ?_ | refine blk_alloc ?_ _)); refine blk_put (cs := #[.int .i64 ((rd_T53 l0 x26_2).f0), .int .i64 ((rd_T53 l0 x26_2).f1), .int .i64 0, .int .i64 0, .int .i64 0]) ?_ 2 _ rfl; (with_reducible repeat (first | refine blk_drewN ?_ _ | refine blk_drew ?_ | refine blk_alloc ?_ _)); refine blk_put (cs := #[.int .i64 ((rd_T53 l0 x26_2).f0), .int .i64 0, .int .i64 0, .int .i64 0, .int .i64 0]) ?_ 1 _ rfl; (with_reducible repeat (first | refine blk_drewN ?_ _ | refine blk_drew ?_ | refine blk_alloc ?_ _)); refine blk_put (cs := #[.int .i64 0, .int .i64 0, .int .i64 0, .int .i64 0, .int .i64 0]) ?_ 0 _ rfl; (with_reducible repeat (first | refine blk_drewN ?_ _ | refine blk_drew ?_ | refine blk_alloc ?_ _)); exact BK163.out⟩
                   have n3_ : Aside0 (Below w.heap.size w (((((w46.setCell ⟨gb163, 0, none⟩ (.int .i64 ((rd_T53 l0 x26_2).f0))).setCell ⟨gb163, 1, none⟩ (.int .i64 ((rd_T53 l0 x26_2).f1))).setCell ⟨gb163, 2, none⟩ (.int .i64 ((rd_T53 l0 x26_2).f2))).setCell ⟨gb163, 3, none⟩ (.int .i64 ((rd_T53 l0 x26_2).f3))).setCell ⟨gb163, 4, none⟩ (.int .i64 ((rd_T53 l0 x26_2).f4)))) := ⟨by repeat (first | (with_reducible first | exact HB.out | apply below_alloc | apply pw_below_drewN | apply below_drew1 | refine below_set ?_ GE163.out) | exact HB.out | (with_reducible exact Below.refl _ _))⟩
                   (try clear HO_8)
                   (try clear HO_9)
                   (try clear BK163)
                   (try clear HB)
                   generalize (((((w46.setCell ⟨gb163, 0, none⟩ (.int .i64 ((rd_T53 l0 x26_2).f0))).setCell ⟨gb163, 1, none⟩ (.int .i64 ((rd_T53 l0 x26_2).f1))).setCell ⟨gb163, 2, none⟩ (.int .i64 ((rd_T53 l0 x26_2).f2))).setCell ⟨gb163, 3, none⟩ (.int .i64 ((rd_T53 l0 x26_2).f3))).setCell ⟨gb163, 4, none⟩ (.int .i64 ((rd_T53 l0 x26_2).f4))) = w48 at n0_ n1_ n2_ n3_ ⊢
                   have HO_8 := n0_
                   have HO_9 := n1_
                   have BK163 := n2_
                   have HB := n3_
                   clear n0_ n1_ n2_ n3_
                   have n0_ := Aside0.mk (Kd.R_drew HO_8.out)
                   have n1_ := Aside0.mk (Kd.R_drew HO_9.out)
                   have n2_ := Aside0.mk (blk_drew BK163.out)
                   have n3_ := Aside0.mk (below_drew1 HB.out)
                   clear HO_8
                   clear HO_9
                   clear BK163
                   clear HB
                   have HO_8 := n0_
                   have HO_9 := n1_
                   have BK163 := n2_
                   have HB := n3_
                   clear n0_ n1_ n2_ n3_
                   have p165 : 0 ≤ (((rd_T53 l0 x26_2).f0) : Int) := of_decide_eq_true (by first | (with_reducible assumption) | assumption)
                   have q165 : ((rd_T53 l0 x26_2).f0) < (x8_1.length : Int) := of_decide_eq_true (by first | (with_reducible assumption) | assumption)
                   obtain ⟨ad165, e165, hx165_0⟩ := Kd.at_int (Kd.R_reads' HO_8.out).2.2 ((rd_T53 l0 x26_2).f0) p165 q165
                   obtain rfl : (⟨go8, 0, none⟩ : Addr) = ad165 := (by injection e165)
                   (first | simp only [add_plain] at hx165_0 | simp only [add_at] at hx165_0 | simp only [Addr.add, Nat.zero_add] at hx165_0 | skip)
                   replace p165 := eq_true p165
                   replace q165 := eq_true q165
                   refine start_ (n := 12) (S := fun w' => w'.cell? ⟨gb163, 0, none⟩ = some (.int .i64 ((rd_T53 l0 x26_2).f0)) ∧ w'.cell? ⟨gb163, 1, none⟩ = some (.int .i64 ((rd_T53 l0 x26_2).f1)) ∧ w'.cell? ⟨gb163, 2, none⟩ = some (.int .i64 ((rd_T53 l0 x26_2).f2)) ∧ w'.cell? ⟨gb163, 3, none⟩ = some (.int .i64 ((rd_T53 l0 x26_2).f3)) ∧ w'.cell? ⟨gb163, 4, none⟩ = some (.int .i64 ((rd_T53 l0 x26_2).f4)) ∧ w'.cell? ⟨go8, (((rd_T53 l0 x26_2).f0)).toNat, none⟩ = some (.int .i64 (rd x8_1 ((rd_T53 l0 x26_2).f0)))) (ds := []) #[ff,ff,ff,ff,ff,ff,ff,ff,ff,ff,ff,ff] (by kernel_rfl) rfl rfl ⟨(blk_cell BK163.out 0).trans rfl, (blk_cell BK163.out 1).trans rfl, (blk_cell BK163.out 2).trans rfl, (blk_cell BK163.out 3).trans rfl, (blk_cell BK163.out 4).trans rfl, hx165_0⟩ (fun hHeld => ?_); refine with_tabW impl_reach.tab8 impl_reach.bits8 (fun HT_ HW_ => ?_)
                   generalize w48.drew = w49 at HO_8 HO_9 BK163 HB hx165_0 hHeld ⊢
                   refine pure_ (i := 1) (N := some 39) (v := ?_) (a' := ?_) #[ff,tt,ff,ff,ff,ff,ff,ff,ff,ff,ff,ff] rfl rfl (any_of HT_.out (by kernel_rfl)) (fun _ _ _ h => h) (Or.inl ⟨by rfl, ?_⟩) ?_ ?_
                   rotate_left
                   ·intro w'
                    go_simp
                    with_reducible rfl
                   rotate_left
                   ·simp only [Act.put, List.setIfInBounds_toArray, List.set_cons_zero, List.set_cons_succ, i64_w, i32_w]
                    rfl
                   refine pure_ (i := 2) (N := some 40) (v := ?_) (a' := ?_) #[ff,tt,tt,ff,ff,ff,ff,ff,ff,ff,ff,ff] rfl rfl (any_of HT_.out (by kernel_rfl)) (fun _ _ _ h => h) (Or.inl ⟨by rfl, ?_⟩) ?_ ?_
                   rotate_left
                   ·intro w'
                    go_simp
                    with_reducible rfl
                   rotate_left
                   ·simp only [Act.put, List.setIfInBounds_toArray, List.set_cons_zero, List.set_cons_succ, i64_w, i32_w]
                    rfl
                   refine take_ (i := 0) (N := some 38) (v := ?_) (a' := ?_) #[tt,tt,tt,ff,ff,ff,ff,ff,ff,ff,ff,ff] rfl rfl (take_ofW HT_.out HW_.out (by kernel_rfl)) (fun _ _ _ h => h) (Or.inl ⟨by rfl, ?_⟩) hHeld ?_ ?_
                   rotate_left
                   ·rintro w' ⟨s0, s1, s2, s3, s4, s5⟩
                    go_simp
                    with_reducible rfl
                   rotate_left
                   ·simp only [Act.put, List.setIfInBounds_toArray, List.set_cons_zero, List.set_cons_succ, i64_w, i32_w]
                    rfl
                   refine take_ (i := 3) (N := some 41) (v := ?_) (a' := ?_) #[tt,tt,tt,tt,ff,ff,ff,ff,ff,ff,ff,ff] rfl rfl (take_ofW HT_.out HW_.out (by kernel_rfl)) (fun _ _ _ h => h) (Or.inl ⟨by rfl, ?_⟩) hHeld ?_ ?_
                   rotate_left
                   ·rintro w' ⟨s0, s1, s2, s3, s4, s5⟩
                    go_simp
                    with_reducible rfl
                   rotate_left
                   ·simp only [Act.put, List.setIfInBounds_toArray, List.set_cons_zero, List.set_cons_succ, i64_w, i32_w]
                    rfl
                   refine pure_ (i := 4) (N := some 42) (v := ?_) (a' := ?_) #[tt,tt,tt,tt,tt,ff,ff,ff,ff,ff,ff,ff] rfl rfl (any_of HT_.out (by kernel_rfl)) (fun _ _ _ h => h) (Or.inl ⟨by rfl, ?_⟩) ?_ ?_
                   rotate_left
                   ·intro w'
                    go_simp
                    with_reducible rfl
                   rotate_left
                   ·simp only [Act.put, List.setIfInBounds_toArray, List.set_cons_zero, List.set_cons_succ, i64_w, i32_w]
                    rfl
                   refine take_ (i := 5) (N := some 43) (v := ?_) (a' := ?_) #[tt,tt,tt,tt,tt,tt,ff,ff,ff,ff,ff,ff] rfl rfl (take_ofW HT_.out HW_.out (by kernel_rfl)) (fun _ _ _ h => h) (Or.inl ⟨by rfl, ?_⟩) hHeld ?_ ?_
                   rotate_left
                   ·rintro w' ⟨s0, s1, s2, s3, s4, s5⟩
                    go_simp
                    with_reducible rfl
                   rotate_left
                   ·simp only [Act.put, List.setIfInBounds_toArray, List.set_cons_zero, List.set_cons_succ, i64_w, i32_w]
                    rfl
                   refine one_ (i := 6) (N := some 44) #[tt,tt,tt,tt,tt,tt,tt,ff,ff,ff,ff,ff] rfl rfl (one_of HT_.out (by kernel_rfl)) (by decide) (fun K hK => ?_)
                   refine goes_ Try.func64 (by kernel_rfl) rfl #[.agg #[.int .i64 ((rd_T53 l0 x26_2).f0), .int .i64 ((rd_T53 l0 x26_2).f1), .int .i64 ((rd_T53 l0 x26_2).f2), .int .i64 ((rd_T53 l0 x26_2).f3), .int .i64 ((rd_T53 l0 x26_2).f4)], .int .i64 (rd x8_1 ((rd_T53 l0 x26_2).f0))] (by rfl) rfl rfl (by (try simp only [List.map_toArray, List.map_cons, List.map_nil]); first | done | rfl | (simp only [List.length_drop, List.length_take]; rfl)) ?_
                   with_reducible refine (impl_Contact_by.calls ((rd_T53 l0 x26_2).f0) ((rd_T53 l0 x26_2).f1) ((rd_T53 l0 x26_2).f2) ((rd_T53 l0 x26_2).f3) ((rd_T53 l0 x26_2).f4) (rd x8_1 ((rd_T53 l0 x26_2).f0)) t166 true _ A27.out).mono ?_
                   rintro e w50 ⟨rfl, hb⟩
                   have HS5_ := (hb.cell (World.block_lt_of_cell? _ _ (hHeld.2.2.2.2.2))).trans (hHeld.2.2.2.2.2)
                   refine ⟨_, rfl, ?_⟩
                   have n0_ := Aside0.mk (Kd.R_below (by (with_reducible repeat (first | apply Kd.R_alloc | apply Kd.R_drewN | apply Kd.R_drew)); exact HO_8.out) hb)
                   have n1_ := Aside0.mk (Kd.R_below (by (with_reducible repeat (first | apply Kd.R_alloc | apply Kd.R_drewN | apply Kd.R_drew)); exact HO_9.out) hb)
                   have n2_ := Aside0.mk (blk_below (g := gb163) (o := .cells #[.int .i64 ((rd_T53 l0 x26_2).f0), .int .i64 ((rd_T53 l0 x26_2).f1), .int .i64 ((rd_T53 l0 x26_2).f2), .int .i64 ((rd_T53 l0 x26_2).f3), .int .i64 ((rd_T53 l0 x26_2).f4)] 53 (0, 0)) (by (with_reducible repeat (first | refine blk_drewN ?_ _ | refine blk_drew ?_ | refine blk_alloc ?_ _)); exact BK163.out) hb)
                   have n3_ := Aside0.mk (below_step (by repeat (first | (with_reducible first | exact HB.out | apply below_alloc | apply pw_below_drewN | apply below_drew1 | refine below_set ?_ GE163.out) | exact HB.out | (with_reducible exact Below.refl _ _))) hb)
                   clear HO_8
                   clear HO_9
                   clear BK163
                   clear HB
                   have HO_8 := n0_
                   have HO_9 := n1_
                   have BK163 := n2_
                   have HB := n3_
                   clear n0_ n1_ n2_ n3_
                   (try clear hb)
                   (try clear hb2)
                   (try clear hk)
                   (try clear hi)
                   refine hK.out _ _ ⟨(blk_cell BK163.out 0).trans rfl, (blk_cell BK163.out 1).trans rfl, (blk_cell BK163.out 2).trans rfl, (blk_cell BK163.out 3).trans rfl, (blk_cell BK163.out 4).trans rfl, HS5_⟩ (fun hHeld => ?_)
                   clear hK K
                   refine norm_ (a' := ?_) ?_ ?_
                   rotate_left
                   ·show Act.put _ (some 44) _ = _
                    simp only [Act.put, List.setIfInBounds_toArray, List.set_cons_zero, List.set_cons_succ, i64_w, i32_w]
                    rfl
                   refine pure_ (i := 7) (N := some 37) (v := ?_) (a' := ?_) #[tt,tt,tt,tt,tt,tt,tt,tt,ff,ff,ff,ff] rfl rfl (any_of HT_.out (by kernel_rfl)) (fun _ _ _ h => h) (Or.inl ⟨by rfl, ?_⟩) ?_ ?_
                   rotate_left
                   ·intro w'
                    go_simp
                    with_reducible rfl
                   rotate_left
                   ·simp only [Act.put, List.setIfInBounds_toArray, List.set_cons_zero, List.set_cons_succ, i64_w, i32_w]
                    rfl
                   refine pure_ (i := 8) (N := some 45) (v := ?_) (a' := ?_) #[tt,tt,tt,tt,tt,tt,tt,tt,tt,ff,ff,ff] rfl rfl (any_of HT_.out (by kernel_rfl)) (fun _ _ _ h => h) (Or.inl ⟨by rfl, ?_⟩) ?_ ?_
                   rotate_left
                   ·intro w'
                    go_simp
                    with_reducible rfl
                   rotate_left
                   ·simp only [Act.put, List.setIfInBounds_toArray, List.set_cons_zero, List.set_cons_succ, i64_w, i32_w]
                    rfl
                   refine pure_ (i := 9) (N := some 46) (v := ?_) (a' := ?_) #[tt,tt,tt,tt,tt,tt,tt,tt,tt,tt,ff,ff] rfl rfl (any_of HT_.out (by kernel_rfl)) (fun _ _ _ h => h) (Or.inl ⟨by rfl, ?_⟩) ?_ ?_
                   rotate_left
                   ·intro w'
                    go_simp
                    with_reducible rfl
                   rotate_left
                   ·simp only [Act.put, List.setIfInBounds_toArray, List.set_cons_zero, List.set_cons_succ, i64_w, i32_w]
                    rfl
                   refine pure_ (i := 10) (N := some 14) (v := ?_) (a' := ?_) #[tt,tt,tt,tt,tt,tt,tt,tt,tt,tt,tt,ff] rfl rfl (any_of HT_.out (by kernel_rfl)) (fun _ _ _ h => h) (Or.inl ⟨by rfl, ?_⟩) ?_ ?_
                   rotate_left
                   ·intro w'
                    go_simp
                    with_reducible rfl
                   rotate_left
                   ·simp only [Act.put, List.setIfInBounds_toArray, List.set_cons_zero, List.set_cons_succ, i64_w, i32_w]
                    rfl
                   refine pure_ (i := 11) (N := some 15) (v := ?_) (a' := ?_) #[tt,tt,tt,tt,tt,tt,tt,tt,tt,tt,tt,tt] rfl rfl (any_of HT_.out (by kernel_rfl)) (fun _ _ _ h => h) (Or.inl ⟨by rfl, ?_⟩) ?_ ?_
                   rotate_left
                   ·intro w'
                    go_simp
                    with_reducible rfl
                   rotate_left
                   ·simp only [Act.put, List.setIfInBounds_toArray, List.set_cons_zero, List.set_cons_succ, i64_w, i32_w]
                    rfl
                   refine done_ (done_of HT_.out (by kernel_rfl)) ?_
                   have hcz51_0 : w50.cell? ⟨gb163, 0, none⟩ = some (.int .i64 ((rd_T53 l0 x26_2).f0)) := (blk_cell BK163.out 0).trans rfl
                   have hcz51_1 : w50.cell? ⟨gb163, 1, none⟩ = some (.int .i64 ((rd_T53 l0 x26_2).f1)) := (blk_cell BK163.out 1).trans rfl
                   have hcz51_2 : w50.cell? ⟨gb163, 2, none⟩ = some (.int .i64 ((rd_T53 l0 x26_2).f2)) := (blk_cell BK163.out 2).trans rfl
                   have hcz51_3 : w50.cell? ⟨gb163, 3, none⟩ = some (.int .i64 ((rd_T53 l0 x26_2).f3)) := (blk_cell BK163.out 3).trans rfl
                   have hcz51_4 : w50.cell? ⟨gb163, 4, none⟩ = some (.int .i64 ((rd_T53 l0 x26_2).f4)) := (blk_cell BK163.out 4).trans rfl
                   have hfz51_0 := blk_frozen BK163.out 0
                   have hfz51_1 := blk_frozen BK163.out 1
                   have hfz51_2 := blk_frozen BK163.out 2
                   have hfz51_3 := blk_frozen BK163.out 3
                   have hfz51_4 := blk_frozen BK163.out 4
                   have p168 : 0 ≤ (((rd_T53 l0 x26_2).f1) : Int) := of_decide_eq_true (by first | (with_reducible assumption) | assumption)
                   have q168 : ((rd_T53 l0 x26_2).f1) < (x8_1.length : Int) := of_decide_eq_true (by first | (with_reducible assumption) | assumption)
                   obtain ⟨ad168, e168, hx168_0⟩ := Kd.at_int (Kd.R_reads' HO_8.out).2.2 ((rd_T53 l0 x26_2).f1) p168 q168
                   obtain rfl : (⟨go8, 0, none⟩ : Addr) = ad168 := (by injection e168)
                   (first | simp only [add_plain] at hx168_0 | simp only [add_at] at hx168_0 | simp only [Addr.add, Nat.zero_add] at hx168_0 | skip)
                   replace p168 := eq_true p168
                   replace q168 := eq_true q168
                   try go_wp2
                   go_roundg k2
                   case measure => have := HK1.out; have := HK2.out; omega
                   case rel => exact ⟨(x10_2), (x11_2), (wrap64 (x26_2 + 1)), (by first | rfl | (simp; done) | (simp [*]; done)), (by first | rfl | (simp; done) | (simp [*]; done)), (by first | rfl | (simp; done) | (simp [*]; done)), H', ⟨by have := HK1.out; have := HK2.out; omega⟩, ⟨by (try simp only [hl8_1]); (with_reducible repeat (first | apply Kd.R_alloc | apply Kd.R_drewN | apply Kd.R_drew)); exact HO_8.out⟩, ⟨by (try simp only [hl8_1]); (with_reducible repeat (first | apply Kd.R_alloc | apply Kd.R_drewN | apply Kd.R_drew)); exact HO_9.out⟩, ⟨by repeat (first | (with_reducible first | exact HB.out | apply below_alloc | apply pw_below_drewN | apply below_drew1 | refine below_set ?_ GE163.out) | exact HB.out | (with_reducible exact Below.refl _ _))⟩⟩
                ·rw [if_neg c31] at H
                 have c31b0 : decide ((rd x8_1 ((rd_T53 l0 x26_2).f1)) < 0) = false := decide_eq_false c31
                 clear c31
                 by_cases c52 : t166 < (rd x8_1 ((rd_T53 l0 x26_2).f1))
                 ·rw [if_pos c52] at H
                  have c52b0 : decide (t166 < (rd x8_1 ((rd_T53 l0 x26_2).f1))) = true := decide_eq_true c52
                  clear c52
                  by_cases c53 : x10_2 < 0
                  ·rw [if_pos c53] at H
                   have c53b0 : decide (x10_2 < 0) = true := decide_eq_true c53
                   clear c53
                   have H' := Aside0.mk H
                   clear H
                   have p162 : 0 ≤ (x26_2 : Int) := of_decide_eq_true (by first | (with_reducible assumption) | assumption)
                   have q162 : x26_2 < (l0.length : Int) := of_decide_eq_true (by first | (with_reducible assumption) | assumption)
                   obtain ⟨ad162, e162, hx162_0, hx162_1, hx162_2, hx162_3, hx162_4⟩ := at_T53 HR0.out x26_2 p162 q162
                   cases e162
                   replace hx162_0 := (HB.out.cell (World.block_lt_of_cell? w _ hx162_0)).trans hx162_0
                   replace hx162_1 := (HB.out.cell (World.block_lt_of_cell? w _ hx162_1)).trans hx162_1
                   replace hx162_2 := (HB.out.cell (World.block_lt_of_cell? w _ hx162_2)).trans hx162_2
                   replace hx162_3 := (HB.out.cell (World.block_lt_of_cell? w _ hx162_3)).trans hx162_3
                   replace hx162_4 := (HB.out.cell (World.block_lt_of_cell? w _ hx162_4)).trans hx162_4
                   replace p162 := eq_true p162
                   replace q162 := eq_true q162
                   try go_wp2_with (first | ((with_reducible refine gate_dst (N := 13) rfl ?_); refine box_event ?hg (N := 13) ?hd (cs := #[.int .i64 0, .int .i64 0, .int .i64 0, .int .i64 0, .int .i64 0]) (t := 53) ?hr ?_; (case hd => rfl); (case hg => rfl); (case hr => first | (go_simp; done) | (go_simp; rfl)); intro gb163 hg w54 hbox hb; have n0_ := Aside0.mk (Kd.R_below (by (with_reducible repeat (first | apply Kd.R_alloc | apply Kd.R_drewN | apply Kd.R_drew)); exact HO_8.out) hb); have n1_ := Aside0.mk (Kd.R_below (by (with_reducible repeat (first | apply Kd.R_alloc | apply Kd.R_drewN | apply Kd.R_drew)); exact HO_9.out) hb); have n2_ := Aside0.mk (below_step (by repeat (first | (with_reducible first | exact HB.out | apply below_alloc | apply pw_below_drewN | apply below_drew1) | exact HB.out | (with_reducible exact Below.refl _ _))) hb); have n3_ := Aside0.mk (hbox); have n4_ := Aside0.mk ((by rw [hg]; exact (below_size (by repeat (first | (with_reducible first | exact HB.out | apply below_alloc | apply pw_below_drewN | apply below_drew1) | exact HB.out | (with_reducible exact Below.refl _ _)))) : w.heap.size ≤ gb163)); have n5_ := Aside0.mk ((by rw [hg]; exact (below_size (by repeat (first | (with_reducible first | exact HB.out | apply below_alloc | apply pw_below_drewN | apply below_drew1) | exact HB.out | (with_reducible exact Below.refl _ _)))) : w.heap.size ≤ gb163)); clear HO_8; clear HO_9; clear HB; have HO_8 := n0_; have HO_9 := n1_; have HB := n2_; have BK163 := n3_; have GW163 := n4_; have GE163 := n5_; clear n0_ n1_ n2_ n3_ n4_ n5_; clear hb hbox hg; have hcz55_0 : w54.cell? ⟨gb163, 0, none⟩ = some (.int .i64 0) := (blk_cell BK163.out 0).trans rfl; have hcz55_1 : w54.cell? ⟨gb163, 1, none⟩ = some (.int .i64 0) := (blk_cell BK163.out 1).trans rfl; have hcz55_2 : w54.cell? ⟨gb163, 2, none⟩ = some (.int .i64 0) := (blk_cell BK163.out 2).trans rfl; have hcz55_3 : w54.cell? ⟨gb163, 3, none⟩ = some (.int .i64 0) := (blk_cell BK163.out 3).trans rfl; have hcz55_4 : w54.cell? ⟨gb163, 4, none⟩ = some (.int .i64 0) := (blk_cell BK163.out 4).trans rfl; have hfz55_0 := blk_frozen BK163.out 0; have hfz55_1 := blk_frozen BK163.out 1; have hfz55_2 := blk_frozen BK163.out 2; have hfz55_3 := blk_frozen BK163.out 3; have hfz55_4 := blk_frozen BK163.out 4; have p164 : 0 ≤ (((rd_T53 l0 x26_2).f0) : Int) := of_decide_eq_true (by first | (with_reducible assumption) | assumption); have q164 : ((rd_T53 l0 x26_2).f0) < (x8_1.length : Int) := of_decide_eq_true (by first | (with_reducible assumption) | assumption); obtain ⟨ad164, e164, hx164_0⟩ := Kd.at_int (Kd.R_reads' HO_8.out).2.2 ((rd_T53 l0 x26_2).f0) p164 q164; obtain rfl : (⟨go8, 0, none⟩ : Addr) = ad164 := (by injection e164); (first | simp only [add_plain] at hx164_0 | simp only [add_at] at hx164_0 | simp only [Addr.add, Nat.zero_add] at hx164_0 | skip); have hn164_0 : (⟨go8, 0, none⟩ : Addr).block ≠ gb163 := Kd.own_blk (Kd.R_ne HO_8.out BK163.out (by decide)); have hn164_1 : (⟨go8, 0, none⟩ : Addr).block ≠ gb163 := Kd.own_blk (Kd.R_ne HO_8.out BK163.out (by decide)); have hn164_2 : (⟨go8, 0, none⟩ : Addr).block ≠ gb163 := Kd.own_blk (Kd.R_ne HO_8.out BK163.out (by decide)); have hn164_3 : (⟨go8, 0, none⟩ : Addr).block ≠ gb163 := Kd.own_blk (Kd.R_ne HO_8.out BK163.out (by decide)); have hn164_4 : (⟨go8, 0, none⟩ : Addr).block ≠ gb163 := Kd.own_blk (Kd.R_ne HO_8.out BK163.out (by decide)); replace hx164_0 := (cell_far (p := ⟨gb163, 0, none⟩) (by first | (rw [add_block]; exact hn164_0) | (show (Addr.add _ _).block ≠ _; rw [add_block]; exact hn164_0) | exact hn164_0) (.int .i64 ((rd_T53 l0 x26_2).f0))).trans hx164_0; replace hx164_0 := (cell_far (p := ⟨gb163, 1, none⟩) (by first | (rw [add_block]; exact hn164_1) | (show (Addr.add _ _).block ≠ _; rw [add_block]; exact hn164_1) | exact hn164_1) (.int .i64 ((rd_T53 l0 x26_2).f1))).trans hx164_0; replace hx164_0 := (cell_far (p := ⟨gb163, 2, none⟩) (by first | (rw [add_block]; exact hn164_2) | (show (Addr.add _ _).block ≠ _; rw [add_block]; exact hn164_2) | exact hn164_2) (.int .i64 ((rd_T53 l0 x26_2).f2))).trans hx164_0; replace hx164_0 := (cell_far (p := ⟨gb163, 3, none⟩) (by first | (rw [add_block]; exact hn164_3) | (show (Addr.add _ _).block ≠ _; rw [add_block]; exact hn164_3) | exact hn164_3) (.int .i64 ((rd_T53 l0 x26_2).f3))).trans hx164_0; replace hx164_0 := (cell_far (p := ⟨gb163, 4, none⟩) (by first | (rw [add_block]; exact hn164_4) | (show (Addr.add _ _).block ≠ _; rw [add_block]; exact hn164_4) | exact hn164_4) (.int .i64 ((rd_T53 l0 x26_2).f4))).trans hx164_0; clear hn164_0; clear hn164_1; clear hn164_2; clear hn164_3; clear hn164_4; replace p164 := eq_true p164; replace q164 := eq_true q164))
                   have n0_ : Aside0 (Kd.R (Kd.int .i64) 3 (((((w54.setCell ⟨gb163, 0, none⟩ (.int .i64 ((rd_T53 l0 x26_2).f0))).setCell ⟨gb163, 1, none⟩ (.int .i64 ((rd_T53 l0 x26_2).f1))).setCell ⟨gb163, 2, none⟩ (.int .i64 ((rd_T53 l0 x26_2).f2))).setCell ⟨gb163, 3, none⟩ (.int .i64 ((rd_T53 l0 x26_2).f3))).setCell ⟨gb163, 4, none⟩ (.int .i64 ((rd_T53 l0 x26_2).f4))) w.heap.size (fun k_ => some k_ ≠ (v155 : Value).ownBlock) (.slice (some ⟨go8, 0, none⟩) x8_1.length co8) x8_1) := ⟨by (with_reducible repeat (first | apply Kd.R_alloc | apply Kd.R_drewN | apply Kd.R_drew)); exact Kd.R_mono (Kd.R_far (p := ⟨gb163, 4, none⟩) (Kd.R_far (p := ⟨gb163, 3, none⟩) (Kd.R_far (p := ⟨gb163, 2, none⟩) (Kd.R_far (p := ⟨gb163, 1, none⟩) (Kd.R_far (p := ⟨gb163, 0, none⟩) (Kd.R_types HO_8.out BK163.out (by decide)) (fun _ hk => hk.2) (.int .i64 ((rd_T53 l0 x26_2).f0))) (fun _ hk => hk.2) (.int .i64 ((rd_T53 l0 x26_2).f1))) (fun _ hk => hk.2) (.int .i64 ((rd_T53 l0 x26_2).f2))) (fun _ hk => hk.2) (.int .i64 ((rd_T53 l0 x26_2).f3))) (fun _ hk => hk.2) (.int .i64 ((rd_T53 l0 x26_2).f4))) (fun _ hk => hk.1)⟩
                   have n1_ : Aside0 (Kd.R (Kd.int .i64) 3 (((((w54.setCell ⟨gb163, 0, none⟩ (.int .i64 ((rd_T53 l0 x26_2).f0))).setCell ⟨gb163, 1, none⟩ (.int .i64 ((rd_T53 l0 x26_2).f1))).setCell ⟨gb163, 2, none⟩ (.int .i64 ((rd_T53 l0 x26_2).f2))).setCell ⟨gb163, 3, none⟩ (.int .i64 ((rd_T53 l0 x26_2).f3))).setCell ⟨gb163, 4, none⟩ (.int .i64 ((rd_T53 l0 x26_2).f4))) w.heap.size (fun k_ => some k_ ≠ (.slice (some ⟨go8, 0, none⟩) x8_1.length co8 : Value).ownBlock) v155 x9_1) := ⟨by (with_reducible repeat (first | apply Kd.R_alloc | apply Kd.R_drewN | apply Kd.R_drew)); exact Kd.R_mono (Kd.R_far (p := ⟨gb163, 4, none⟩) (Kd.R_far (p := ⟨gb163, 3, none⟩) (Kd.R_far (p := ⟨gb163, 2, none⟩) (Kd.R_far (p := ⟨gb163, 1, none⟩) (Kd.R_far (p := ⟨gb163, 0, none⟩) (Kd.R_types HO_9.out BK163.out (by decide)) (fun _ hk => hk.2) (.int .i64 ((rd_T53 l0 x26_2).f0))) (fun _ hk => hk.2) (.int .i64 ((rd_T53 l0 x26_2).f1))) (fun _ hk => hk.2) (.int .i64 ((rd_T53 l0 x26_2).f2))) (fun _ hk => hk.2) (.int .i64 ((rd_T53 l0 x26_2).f3))) (fun _ hk => hk.2) (.int .i64 ((rd_T53 l0 x26_2).f4))) (fun _ hk => hk.1)⟩
                   have n2_ : Aside0 ((((((w54.setCell ⟨gb163, 0, none⟩ (.int .i64 ((rd_T53 l0 x26_2).f0))).setCell ⟨gb163, 1, none⟩ (.int .i64 ((rd_T53 l0 x26_2).f1))).setCell ⟨gb163, 2, none⟩ (.int .i64 ((rd_T53 l0 x26_2).f2))).setCell ⟨gb163, 3, none⟩ (.int .i64 ((rd_T53 l0 x26_2).f3))).setCell ⟨gb163, 4, none⟩ (.int .i64 ((rd_T53 l0 x26_2).f4))).heap[gb163]? = some (.cells #[.int .i64 ((rd_T53 l0 x26_2).f0), .int .i64 ((rd_T53 l0 x26_2).f1), .int .i64 ((rd_T53 l0 x26_2).f2), .int .i64 ((rd_T53 l0 x26_2).f3), .int .i64 ((rd_T53 l0 x26_2).f4)] 53 (0, 0))) := ⟨by (with_reducible repeat (first | refine blk_drewN ?_ _ | refine blk_drew ?_ | refine blk_alloc ?_ _)); refine blk_put (cs := #[.int .i64 ((rd_T53 l0 x26_2).f0), .int .i64 ((rd_T53 l0 x26_2).f1), .int .i64 ((rd_T53 l0 x26_2).f2), .int .i64 ((rd_T53 l0 x26_2).f3), .int .i64 0]) ?_ 4 _ rfl; (with_reducible repeat (first | refine blk_drewN ?_ _ | refine blk_drew ?_ | refine blk_alloc ?_ _)); refine blk_put (cs := #[.int .i64 ((rd_T53 l0 x26_2).f0), .int .i64 ((rd_T53 l0 x26_2).f1), .int .i64 ((rd_T53 l0 x26_2).f2), .int .i64 0, .int .i64 0]) ?_ 3 _ rfl; (with_reducible repeat (first | refine blk_drewN ?_ _ | refine blk_drew ?_ | refine blk_alloc ?_ _)); refine blk_put (cs := #[.int .i64 ((rd_T53 l0 x26_2).f0), .int .i64 ((rd_T53 l0 x26_2).f1), .int .i64 0, .int .i64 0, .int .i64 0]) ?_ 2 _ rfl; (with_reducible repeat (first | refine blk_drewN ?_ _ | refine blk_drew ?_ | refine blk_alloc ?_ _)); refine blk_put (cs := #[.int .i64 ((rd_T53 l0 x26_2).f0), .int .i64 0, .int .i64 0, .int .i64 0, .int .i64 0]) ?_ 1 _ rfl; (with_reducible repeat (first | refine blk_drewN ?_ _ | refine blk_drew ?_ | refine blk_alloc ?_ _)); refine blk_put (cs := #[.int .i64 0, .int .i64 0, .int .i64 0, .int .i64 0, .int .i64 0]) ?_ 0 _ rfl; (with_reducible repeat (first | refine blk_drewN ?_ _ | refine blk_drew ?_ | refine blk_alloc ?_ _)); exact BK163.out⟩
                   have n3_ : Aside0 (Below w.heap.size w (((((w54.setCell ⟨gb163, 0, none⟩ (.int .i64 ((rd_T53 l0 x26_2).f0))).setCell ⟨gb163, 1, none⟩ (.int .i64 ((rd_T53 l0 x26_2).f1))).setCell ⟨gb163, 2, none⟩ (.int .i64 ((rd_T53 l0 x26_2).f2))).setCell ⟨gb163, 3, none⟩ (.int .i64 ((rd_T53 l0 x26_2).f3))).setCell ⟨gb163, 4, none⟩ (.int .i64 ((rd_T53 l0 x26_2).f4)))) := ⟨by repeat (first | (with_reducible first | exact HB.out | apply below_alloc | apply pw_below_drewN | apply below_drew1 | refine below_set ?_ GE163.out) | exact HB.out | (with_reducible exact Below.refl _ _))⟩
                   (try clear HO_8)
                   (try clear HO_9)
                   (try clear BK163)
                   (try clear HB)
                   generalize (((((w54.setCell ⟨gb163, 0, none⟩ (.int .i64 ((rd_T53 l0 x26_2).f0))).setCell ⟨gb163, 1, none⟩ (.int .i64 ((rd_T53 l0 x26_2).f1))).setCell ⟨gb163, 2, none⟩ (.int .i64 ((rd_T53 l0 x26_2).f2))).setCell ⟨gb163, 3, none⟩ (.int .i64 ((rd_T53 l0 x26_2).f3))).setCell ⟨gb163, 4, none⟩ (.int .i64 ((rd_T53 l0 x26_2).f4))) = w56 at n0_ n1_ n2_ n3_ ⊢
                   have HO_8 := n0_
                   have HO_9 := n1_
                   have BK163 := n2_
                   have HB := n3_
                   clear n0_ n1_ n2_ n3_
                   have n0_ := Aside0.mk (Kd.R_drew HO_8.out)
                   have n1_ := Aside0.mk (Kd.R_drew HO_9.out)
                   have n2_ := Aside0.mk (blk_drew BK163.out)
                   have n3_ := Aside0.mk (below_drew1 HB.out)
                   clear HO_8
                   clear HO_9
                   clear BK163
                   clear HB
                   have HO_8 := n0_
                   have HO_9 := n1_
                   have BK163 := n2_
                   have HB := n3_
                   clear n0_ n1_ n2_ n3_
                   have p165 : 0 ≤ (((rd_T53 l0 x26_2).f0) : Int) := of_decide_eq_true (by first | (with_reducible assumption) | assumption)
                   have q165 : ((rd_T53 l0 x26_2).f0) < (x8_1.length : Int) := of_decide_eq_true (by first | (with_reducible assumption) | assumption)
                   obtain ⟨ad165, e165, hx165_0⟩ := Kd.at_int (Kd.R_reads' HO_8.out).2.2 ((rd_T53 l0 x26_2).f0) p165 q165
                   obtain rfl : (⟨go8, 0, none⟩ : Addr) = ad165 := (by injection e165)
                   (first | simp only [add_plain] at hx165_0 | simp only [add_at] at hx165_0 | simp only [Addr.add, Nat.zero_add] at hx165_0 | skip)
                   replace p165 := eq_true p165
                   replace q165 := eq_true q165
                   refine start_ (n := 12) (S := fun w' => w'.cell? ⟨gb163, 0, none⟩ = some (.int .i64 ((rd_T53 l0 x26_2).f0)) ∧ w'.cell? ⟨gb163, 1, none⟩ = some (.int .i64 ((rd_T53 l0 x26_2).f1)) ∧ w'.cell? ⟨gb163, 2, none⟩ = some (.int .i64 ((rd_T53 l0 x26_2).f2)) ∧ w'.cell? ⟨gb163, 3, none⟩ = some (.int .i64 ((rd_T53 l0 x26_2).f3)) ∧ w'.cell? ⟨gb163, 4, none⟩ = some (.int .i64 ((rd_T53 l0 x26_2).f4)) ∧ w'.cell? ⟨go8, (((rd_T53 l0 x26_2).f0)).toNat, none⟩ = some (.int .i64 (rd x8_1 ((rd_T53 l0 x26_2).f0)))) (ds := []) #[ff,ff,ff,ff,ff,ff,ff,ff,ff,ff,ff,ff] (by kernel_rfl) rfl rfl ⟨(blk_cell BK163.out 0).trans rfl, (blk_cell BK163.out 1).trans rfl, (blk_cell BK163.out 2).trans rfl, (blk_cell BK163.out 3).trans rfl, (blk_cell BK163.out 4).trans rfl, hx165_0⟩ (fun hHeld => ?_); refine with_tabW impl_reach.tab8 impl_reach.bits8 (fun HT_ HW_ => ?_)
                   generalize w56.drew = w57 at HO_8 HO_9 BK163 HB hx165_0 hHeld ⊢
                   refine pure_ (i := 1) (N := some 39) (v := ?_) (a' := ?_) #[ff,tt,ff,ff,ff,ff,ff,ff,ff,ff,ff,ff] rfl rfl (any_of HT_.out (by kernel_rfl)) (fun _ _ _ h => h) (Or.inl ⟨by rfl, ?_⟩) ?_ ?_
                   rotate_left
                   ·intro w'
                    go_simp
                    with_reducible rfl
                   rotate_left
                   ·simp only [Act.put, List.setIfInBounds_toArray, List.set_cons_zero, List.set_cons_succ, i64_w, i32_w]
                    rfl
                   refine pure_ (i := 2) (N := some 40) (v := ?_) (a' := ?_) #[ff,tt,tt,ff,ff,ff,ff,ff,ff,ff,ff,ff] rfl rfl (any_of HT_.out (by kernel_rfl)) (fun _ _ _ h => h) (Or.inl ⟨by rfl, ?_⟩) ?_ ?_
                   rotate_left
                   ·intro w'
                    go_simp
                    with_reducible rfl
                   rotate_left
                   ·simp only [Act.put, List.setIfInBounds_toArray, List.set_cons_zero, List.set_cons_succ, i64_w, i32_w]
                    rfl
                   refine take_ (i := 0) (N := some 38) (v := ?_) (a' := ?_) #[tt,tt,tt,ff,ff,ff,ff,ff,ff,ff,ff,ff] rfl rfl (take_ofW HT_.out HW_.out (by kernel_rfl)) (fun _ _ _ h => h) (Or.inl ⟨by rfl, ?_⟩) hHeld ?_ ?_
                   rotate_left
                   ·rintro w' ⟨s0, s1, s2, s3, s4, s5⟩
                    go_simp
                    with_reducible rfl
                   rotate_left
                   ·simp only [Act.put, List.setIfInBounds_toArray, List.set_cons_zero, List.set_cons_succ, i64_w, i32_w]
                    rfl
                   refine take_ (i := 3) (N := some 41) (v := ?_) (a' := ?_) #[tt,tt,tt,tt,ff,ff,ff,ff,ff,ff,ff,ff] rfl rfl (take_ofW HT_.out HW_.out (by kernel_rfl)) (fun _ _ _ h => h) (Or.inl ⟨by rfl, ?_⟩) hHeld ?_ ?_
                   rotate_left
                   ·rintro w' ⟨s0, s1, s2, s3, s4, s5⟩
                    go_simp
                    with_reducible rfl
                   rotate_left
                   ·simp only [Act.put, List.setIfInBounds_toArray, List.set_cons_zero, List.set_cons_succ, i64_w, i32_w]
                    rfl
                   refine pure_ (i := 4) (N := some 42) (v := ?_) (a' := ?_) #[tt,tt,tt,tt,tt,ff,ff,ff,ff,ff,ff,ff] rfl rfl (any_of HT_.out (by kernel_rfl)) (fun _ _ _ h => h) (Or.inl ⟨by rfl, ?_⟩) ?_ ?_
                   rotate_left
                   ·intro w'
                    go_simp
                    with_reducible rfl
                   rotate_left
                   ·simp only [Act.put, List.setIfInBounds_toArray, List.set_cons_zero, List.set_cons_succ, i64_w, i32_w]
                    rfl
                   refine take_ (i := 5) (N := some 43) (v := ?_) (a' := ?_) #[tt,tt,tt,tt,tt,tt,ff,ff,ff,ff,ff,ff] rfl rfl (take_ofW HT_.out HW_.out (by kernel_rfl)) (fun _ _ _ h => h) (Or.inl ⟨by rfl, ?_⟩) hHeld ?_ ?_
                   rotate_left
                   ·rintro w' ⟨s0, s1, s2, s3, s4, s5⟩
                    go_simp
                    with_reducible rfl
                   rotate_left
                   ·simp only [Act.put, List.setIfInBounds_toArray, List.set_cons_zero, List.set_cons_succ, i64_w, i32_w]
                    rfl
                   refine one_ (i := 6) (N := some 44) #[tt,tt,tt,tt,tt,tt,tt,ff,ff,ff,ff,ff] rfl rfl (one_of HT_.out (by kernel_rfl)) (by decide) (fun K hK => ?_)
                   refine goes_ Try.func64 (by kernel_rfl) rfl #[.agg #[.int .i64 ((rd_T53 l0 x26_2).f0), .int .i64 ((rd_T53 l0 x26_2).f1), .int .i64 ((rd_T53 l0 x26_2).f2), .int .i64 ((rd_T53 l0 x26_2).f3), .int .i64 ((rd_T53 l0 x26_2).f4)], .int .i64 (rd x8_1 ((rd_T53 l0 x26_2).f0))] (by rfl) rfl rfl (by (try simp only [List.map_toArray, List.map_cons, List.map_nil]); first | done | rfl | (simp only [List.length_drop, List.length_take]; rfl)) ?_
                   with_reducible refine (impl_Contact_by.calls ((rd_T53 l0 x26_2).f0) ((rd_T53 l0 x26_2).f1) ((rd_T53 l0 x26_2).f2) ((rd_T53 l0 x26_2).f3) ((rd_T53 l0 x26_2).f4) (rd x8_1 ((rd_T53 l0 x26_2).f0)) t166 true _ A27.out).mono ?_
                   rintro e w58 ⟨rfl, hb⟩
                   have HS5_ := (hb.cell (World.block_lt_of_cell? _ _ (hHeld.2.2.2.2.2))).trans (hHeld.2.2.2.2.2)
                   refine ⟨_, rfl, ?_⟩
                   have n0_ := Aside0.mk (Kd.R_below (by (with_reducible repeat (first | apply Kd.R_alloc | apply Kd.R_drewN | apply Kd.R_drew)); exact HO_8.out) hb)
                   have n1_ := Aside0.mk (Kd.R_below (by (with_reducible repeat (first | apply Kd.R_alloc | apply Kd.R_drewN | apply Kd.R_drew)); exact HO_9.out) hb)
                   have n2_ := Aside0.mk (blk_below (g := gb163) (o := .cells #[.int .i64 ((rd_T53 l0 x26_2).f0), .int .i64 ((rd_T53 l0 x26_2).f1), .int .i64 ((rd_T53 l0 x26_2).f2), .int .i64 ((rd_T53 l0 x26_2).f3), .int .i64 ((rd_T53 l0 x26_2).f4)] 53 (0, 0)) (by (with_reducible repeat (first | refine blk_drewN ?_ _ | refine blk_drew ?_ | refine blk_alloc ?_ _)); exact BK163.out) hb)
                   have n3_ := Aside0.mk (below_step (by repeat (first | (with_reducible first | exact HB.out | apply below_alloc | apply pw_below_drewN | apply below_drew1 | refine below_set ?_ GE163.out) | exact HB.out | (with_reducible exact Below.refl _ _))) hb)
                   clear HO_8
                   clear HO_9
                   clear BK163
                   clear HB
                   have HO_8 := n0_
                   have HO_9 := n1_
                   have BK163 := n2_
                   have HB := n3_
                   clear n0_ n1_ n2_ n3_
                   (try clear hb)
                   (try clear hb2)
                   (try clear hk)
                   (try clear hi)
                   refine hK.out _ _ ⟨(blk_cell BK163.out 0).trans rfl, (blk_cell BK163.out 1).trans rfl, (blk_cell BK163.out 2).trans rfl, (blk_cell BK163.out 3).trans rfl, (blk_cell BK163.out 4).trans rfl, HS5_⟩ (fun hHeld => ?_)
                   clear hK K
                   refine norm_ (a' := ?_) ?_ ?_
                   rotate_left
                   ·show Act.put _ (some 44) _ = _
                    simp only [Act.put, List.setIfInBounds_toArray, List.set_cons_zero, List.set_cons_succ, i64_w, i32_w]
                    rfl
                   refine pure_ (i := 7) (N := some 37) (v := ?_) (a' := ?_) #[tt,tt,tt,tt,tt,tt,tt,tt,ff,ff,ff,ff] rfl rfl (any_of HT_.out (by kernel_rfl)) (fun _ _ _ h => h) (Or.inl ⟨by rfl, ?_⟩) ?_ ?_
                   rotate_left
                   ·intro w'
                    go_simp
                    with_reducible rfl
                   rotate_left
                   ·simp only [Act.put, List.setIfInBounds_toArray, List.set_cons_zero, List.set_cons_succ, i64_w, i32_w]
                    rfl
                   refine pure_ (i := 8) (N := some 45) (v := ?_) (a' := ?_) #[tt,tt,tt,tt,tt,tt,tt,tt,tt,ff,ff,ff] rfl rfl (any_of HT_.out (by kernel_rfl)) (fun _ _ _ h => h) (Or.inl ⟨by rfl, ?_⟩) ?_ ?_
                   rotate_left
                   ·intro w'
                    go_simp
                    with_reducible rfl
                   rotate_left
                   ·simp only [Act.put, List.setIfInBounds_toArray, List.set_cons_zero, List.set_cons_succ, i64_w, i32_w]
                    rfl
                   refine pure_ (i := 9) (N := some 46) (v := ?_) (a' := ?_) #[tt,tt,tt,tt,tt,tt,tt,tt,tt,tt,ff,ff] rfl rfl (any_of HT_.out (by kernel_rfl)) (fun _ _ _ h => h) (Or.inl ⟨by rfl, ?_⟩) ?_ ?_
                   rotate_left
                   ·intro w'
                    go_simp
                    with_reducible rfl
                   rotate_left
                   ·simp only [Act.put, List.setIfInBounds_toArray, List.set_cons_zero, List.set_cons_succ, i64_w, i32_w]
                    rfl
                   refine pure_ (i := 10) (N := some 14) (v := ?_) (a' := ?_) #[tt,tt,tt,tt,tt,tt,tt,tt,tt,tt,tt,ff] rfl rfl (any_of HT_.out (by kernel_rfl)) (fun _ _ _ h => h) (Or.inl ⟨by rfl, ?_⟩) ?_ ?_
                   rotate_left
                   ·intro w'
                    go_simp
                    with_reducible rfl
                   rotate_left
                   ·simp only [Act.put, List.setIfInBounds_toArray, List.set_cons_zero, List.set_cons_succ, i64_w, i32_w]
                    rfl
                   refine pure_ (i := 11) (N := some 15) (v := ?_) (a' := ?_) #[tt,tt,tt,tt,tt,tt,tt,tt,tt,tt,tt,tt] rfl rfl (any_of HT_.out (by kernel_rfl)) (fun _ _ _ h => h) (Or.inl ⟨by rfl, ?_⟩) ?_ ?_
                   rotate_left
                   ·intro w'
                    go_simp
                    with_reducible rfl
                   rotate_left
                   ·simp only [Act.put, List.setIfInBounds_toArray, List.set_cons_zero, List.set_cons_succ, i64_w, i32_w]
                    rfl
                   refine done_ (done_of HT_.out (by kernel_rfl)) ?_
                   have hcz59_0 : w58.cell? ⟨gb163, 0, none⟩ = some (.int .i64 ((rd_T53 l0 x26_2).f0)) := (blk_cell BK163.out 0).trans rfl
                   have hcz59_1 : w58.cell? ⟨gb163, 1, none⟩ = some (.int .i64 ((rd_T53 l0 x26_2).f1)) := (blk_cell BK163.out 1).trans rfl
                   have hcz59_2 : w58.cell? ⟨gb163, 2, none⟩ = some (.int .i64 ((rd_T53 l0 x26_2).f2)) := (blk_cell BK163.out 2).trans rfl
                   have hcz59_3 : w58.cell? ⟨gb163, 3, none⟩ = some (.int .i64 ((rd_T53 l0 x26_2).f3)) := (blk_cell BK163.out 3).trans rfl
                   have hcz59_4 : w58.cell? ⟨gb163, 4, none⟩ = some (.int .i64 ((rd_T53 l0 x26_2).f4)) := (blk_cell BK163.out 4).trans rfl
                   have hfz59_0 := blk_frozen BK163.out 0
                   have hfz59_1 := blk_frozen BK163.out 1
                   have hfz59_2 := blk_frozen BK163.out 2
                   have hfz59_3 := blk_frozen BK163.out 3
                   have hfz59_4 := blk_frozen BK163.out 4
                   have p168 : 0 ≤ (((rd_T53 l0 x26_2).f1) : Int) := of_decide_eq_true (by first | (with_reducible assumption) | assumption)
                   have q168 : ((rd_T53 l0 x26_2).f1) < (x8_1.length : Int) := of_decide_eq_true (by first | (with_reducible assumption) | assumption)
                   obtain ⟨ad168, e168, hx168_0⟩ := Kd.at_int (Kd.R_reads' HO_8.out).2.2 ((rd_T53 l0 x26_2).f1) p168 q168
                   obtain rfl : (⟨go8, 0, none⟩ : Addr) = ad168 := (by injection e168)
                   (first | simp only [add_plain] at hx168_0 | simp only [add_at] at hx168_0 | simp only [Addr.add, Nat.zero_add] at hx168_0 | skip)
                   replace p168 := eq_true p168
                   replace q168 := eq_true q168
                   have p169 : 0 ≤ (((rd_T53 l0 x26_2).f1) : Int) := of_decide_eq_true (by first | (with_reducible assumption) | assumption)
                   have q169 : ((rd_T53 l0 x26_2).f1) < (x8_1.length : Int) := of_decide_eq_true (by first | (with_reducible assumption) | assumption)
                   obtain ⟨ad169, e169, hx169_0⟩ := Kd.at_int (Kd.R_reads' HO_8.out).2.2 ((rd_T53 l0 x26_2).f1) p169 q169
                   obtain rfl : (⟨go8, 0, none⟩ : Addr) = ad169 := (by injection e169)
                   (first | simp only [add_plain] at hx169_0 | simp only [add_at] at hx169_0 | simp only [Addr.add, Nat.zero_add] at hx169_0 | skip)
                   replace p169 := eq_true p169
                   replace q169 := eq_true q169
                   try go_wp2
                   go_roundg k2
                   case measure => have := HK1.out; have := HK2.out; omega
                   case rel => exact ⟨(x26_2), (t166), (wrap64 (x26_2 + 1)), (by first | rfl | (simp; done) | (simp [*]; done)), (by first | rfl | (simp; done) | (simp [*]; done)), (by first | rfl | (simp; done) | (simp [*]; done)), H', ⟨by have := HK1.out; have := HK2.out; omega⟩, ⟨by (try simp only [hl8_1]); (with_reducible repeat (first | apply Kd.R_alloc | apply Kd.R_drewN | apply Kd.R_drew)); exact HO_8.out⟩, ⟨by (try simp only [hl8_1]); (with_reducible repeat (first | apply Kd.R_alloc | apply Kd.R_drewN | apply Kd.R_drew)); exact HO_9.out⟩, ⟨by repeat (first | (with_reducible first | exact HB.out | apply below_alloc | apply pw_below_drewN | apply below_drew1 | refine below_set ?_ GE163.out) | exact HB.out | (with_reducible exact Below.refl _ _))⟩⟩
                  ·rw [if_neg c53] at H
                   have c53b0 : decide (x10_2 < 0) = false := decide_eq_false c53
                   clear c53
                   by_cases c60 : t166 < x11_2
                   ·rw [if_pos c60] at H
                    have c60b0 : decide (t166 < x11_2) = true := decide_eq_true c60
                    clear c60
                    have H' := Aside0.mk H
                    clear H
                    have p162 : 0 ≤ (x26_2 : Int) := of_decide_eq_true (by first | (with_reducible assumption) | assumption)
                    have q162 : x26_2 < (l0.length : Int) := of_decide_eq_true (by first | (with_reducible assumption) | assumption)
                    obtain ⟨ad162, e162, hx162_0, hx162_1, hx162_2, hx162_3, hx162_4⟩ := at_T53 HR0.out x26_2 p162 q162
                    cases e162
                    replace hx162_0 := (HB.out.cell (World.block_lt_of_cell? w _ hx162_0)).trans hx162_0
                    replace hx162_1 := (HB.out.cell (World.block_lt_of_cell? w _ hx162_1)).trans hx162_1
                    replace hx162_2 := (HB.out.cell (World.block_lt_of_cell? w _ hx162_2)).trans hx162_2
                    replace hx162_3 := (HB.out.cell (World.block_lt_of_cell? w _ hx162_3)).trans hx162_3
                    replace hx162_4 := (HB.out.cell (World.block_lt_of_cell? w _ hx162_4)).trans hx162_4
                    replace p162 := eq_true p162
                    replace q162 := eq_true q162
                    try go_wp2_with (first | ((with_reducible refine gate_dst (N := 13) rfl ?_); refine box_event ?hg (N := 13) ?hd (cs := #[.int .i64 0, .int .i64 0, .int .i64 0, .int .i64 0, .int .i64 0]) (t := 53) ?hr ?_; (case hd => rfl); (case hg => rfl); (case hr => first | (go_simp; done) | (go_simp; rfl)); intro gb163 hg w61 hbox hb; have n0_ := Aside0.mk (Kd.R_below (by (with_reducible repeat (first | apply Kd.R_alloc | apply Kd.R_drewN | apply Kd.R_drew)); exact HO_8.out) hb); have n1_ := Aside0.mk (Kd.R_below (by (with_reducible repeat (first | apply Kd.R_alloc | apply Kd.R_drewN | apply Kd.R_drew)); exact HO_9.out) hb); have n2_ := Aside0.mk (below_step (by repeat (first | (with_reducible first | exact HB.out | apply below_alloc | apply pw_below_drewN | apply below_drew1) | exact HB.out | (with_reducible exact Below.refl _ _))) hb); have n3_ := Aside0.mk (hbox); have n4_ := Aside0.mk ((by rw [hg]; exact (below_size (by repeat (first | (with_reducible first | exact HB.out | apply below_alloc | apply pw_below_drewN | apply below_drew1) | exact HB.out | (with_reducible exact Below.refl _ _)))) : w.heap.size ≤ gb163)); have n5_ := Aside0.mk ((by rw [hg]; exact (below_size (by repeat (first | (with_reducible first | exact HB.out | apply below_alloc | apply pw_below_drewN | apply below_drew1) | exact HB.out | (with_reducible exact Below.refl _ _)))) : w.heap.size ≤ gb163)); clear HO_8; clear HO_9; clear HB; have HO_8 := n0_; have HO_9 := n1_; have HB := n2_; have BK163 := n3_; have GW163 := n4_; have GE163 := n5_; clear n0_ n1_ n2_ n3_ n4_ n5_; clear hb hbox hg; have hcz62_0 : w61.cell? ⟨gb163, 0, none⟩ = some (.int .i64 0) := (blk_cell BK163.out 0).trans rfl; have hcz62_1 : w61.cell? ⟨gb163, 1, none⟩ = some (.int .i64 0) := (blk_cell BK163.out 1).trans rfl; have hcz62_2 : w61.cell? ⟨gb163, 2, none⟩ = some (.int .i64 0) := (blk_cell BK163.out 2).trans rfl; have hcz62_3 : w61.cell? ⟨gb163, 3, none⟩ = some (.int .i64 0) := (blk_cell BK163.out 3).trans rfl; have hcz62_4 : w61.cell? ⟨gb163, 4, none⟩ = some (.int .i64 0) := (blk_cell BK163.out 4).trans rfl; have hfz62_0 := blk_frozen BK163.out 0; have hfz62_1 := blk_frozen BK163.out 1; have hfz62_2 := blk_frozen BK163.out 2; have hfz62_3 := blk_frozen BK163.out 3; have hfz62_4 := blk_frozen BK163.out 4; have p164 : 0 ≤ (((rd_T53 l0 x26_2).f0) : Int) := of_decide_eq_true (by first | (with_reducible assumption) | assumption); have q164 : ((rd_T53 l0 x26_2).f0) < (x8_1.length : Int) := of_decide_eq_true (by first | (with_reducible assumption) | assumption); obtain ⟨ad164, e164, hx164_0⟩ := Kd.at_int (Kd.R_reads' HO_8.out).2.2 ((rd_T53 l0 x26_2).f0) p164 q164; obtain rfl : (⟨go8, 0, none⟩ : Addr) = ad164 := (by injection e164); (first | simp only [add_plain] at hx164_0 | simp only [add_at] at hx164_0 | simp only [Addr.add, Nat.zero_add] at hx164_0 | skip); have hn164_0 : (⟨go8, 0, none⟩ : Addr).block ≠ gb163 := Kd.own_blk (Kd.R_ne HO_8.out BK163.out (by decide)); have hn164_1 : (⟨go8, 0, none⟩ : Addr).block ≠ gb163 := Kd.own_blk (Kd.R_ne HO_8.out BK163.out (by decide)); have hn164_2 : (⟨go8, 0, none⟩ : Addr).block ≠ gb163 := Kd.own_blk (Kd.R_ne HO_8.out BK163.out (by decide)); have hn164_3 : (⟨go8, 0, none⟩ : Addr).block ≠ gb163 := Kd.own_blk (Kd.R_ne HO_8.out BK163.out (by decide)); have hn164_4 : (⟨go8, 0, none⟩ : Addr).block ≠ gb163 := Kd.own_blk (Kd.R_ne HO_8.out BK163.out (by decide)); replace hx164_0 := (cell_far (p := ⟨gb163, 0, none⟩) (by first | (rw [add_block]; exact hn164_0) | (show (Addr.add _ _).block ≠ _; rw [add_block]; exact hn164_0) | exact hn164_0) (.int .i64 ((rd_T53 l0 x26_2).f0))).trans hx164_0; replace hx164_0 := (cell_far (p := ⟨gb163, 1, none⟩) (by first | (rw [add_block]; exact hn164_1) | (show (Addr.add _ _).block ≠ _; rw [add_block]; exact hn164_1) | exact hn164_1) (.int .i64 ((rd_T53 l0 x26_2).f1))).trans hx164_0; replace hx164_0 := (cell_far (p := ⟨gb163, 2, none⟩) (by first | (rw [add_block]; exact hn164_2) | (show (Addr.add _ _).block ≠ _; rw [add_block]; exact hn164_2) | exact hn164_2) (.int .i64 ((rd_T53 l0 x26_2).f2))).trans hx164_0; replace hx164_0 := (cell_far (p := ⟨gb163, 3, none⟩) (by first | (rw [add_block]; exact hn164_3) | (show (Addr.add _ _).block ≠ _; rw [add_block]; exact hn164_3) | exact hn164_3) (.int .i64 ((rd_T53 l0 x26_2).f3))).trans hx164_0; replace hx164_0 := (cell_far (p := ⟨gb163, 4, none⟩) (by first | (rw [add_block]; exact hn164_4) | (show (Addr.add _ _).block ≠ _; rw [add_block]; exact hn164_4) | exact hn164_4) (.int .i64 ((rd_T53 l0 x26_2).f4))).trans hx164_0; clear hn164_0; clear hn164_1; clear hn164_2; clear hn164_3; clear hn164_4; replace p164 := eq_true p164; replace q164 := eq_true q164))
                    have n0_ : Aside0 (Kd.R (Kd.int .i64) 3 (((((w61.setCell ⟨gb163, 0, none⟩ (.int .i64 ((rd_T53 l0 x26_2).f0))).setCell ⟨gb163, 1, none⟩ (.int .i64 ((rd_T53 l0 x26_2).f1))).setCell ⟨gb163, 2, none⟩ (.int .i64 ((rd_T53 l0 x26_2).f2))).setCell ⟨gb163, 3, none⟩ (.int .i64 ((rd_T53 l0 x26_2).f3))).setCell ⟨gb163, 4, none⟩ (.int .i64 ((rd_T53 l0 x26_2).f4))) w.heap.size (fun k_ => some k_ ≠ (v155 : Value).ownBlock) (.slice (some ⟨go8, 0, none⟩) x8_1.length co8) x8_1) := ⟨by (with_reducible repeat (first | apply Kd.R_alloc | apply Kd.R_drewN | apply Kd.R_drew)); exact Kd.R_mono (Kd.R_far (p := ⟨gb163, 4, none⟩) (Kd.R_far (p := ⟨gb163, 3, none⟩) (Kd.R_far (p := ⟨gb163, 2, none⟩) (Kd.R_far (p := ⟨gb163, 1, none⟩) (Kd.R_far (p := ⟨gb163, 0, none⟩) (Kd.R_types HO_8.out BK163.out (by decide)) (fun _ hk => hk.2) (.int .i64 ((rd_T53 l0 x26_2).f0))) (fun _ hk => hk.2) (.int .i64 ((rd_T53 l0 x26_2).f1))) (fun _ hk => hk.2) (.int .i64 ((rd_T53 l0 x26_2).f2))) (fun _ hk => hk.2) (.int .i64 ((rd_T53 l0 x26_2).f3))) (fun _ hk => hk.2) (.int .i64 ((rd_T53 l0 x26_2).f4))) (fun _ hk => hk.1)⟩
                    have n1_ : Aside0 (Kd.R (Kd.int .i64) 3 (((((w61.setCell ⟨gb163, 0, none⟩ (.int .i64 ((rd_T53 l0 x26_2).f0))).setCell ⟨gb163, 1, none⟩ (.int .i64 ((rd_T53 l0 x26_2).f1))).setCell ⟨gb163, 2, none⟩ (.int .i64 ((rd_T53 l0 x26_2).f2))).setCell ⟨gb163, 3, none⟩ (.int .i64 ((rd_T53 l0 x26_2).f3))).setCell ⟨gb163, 4, none⟩ (.int .i64 ((rd_T53 l0 x26_2).f4))) w.heap.size (fun k_ => some k_ ≠ (.slice (some ⟨go8, 0, none⟩) x8_1.length co8 : Value).ownBlock) v155 x9_1) := ⟨by (with_reducible repeat (first | apply Kd.R_alloc | apply Kd.R_drewN | apply Kd.R_drew)); exact Kd.R_mono (Kd.R_far (p := ⟨gb163, 4, none⟩) (Kd.R_far (p := ⟨gb163, 3, none⟩) (Kd.R_far (p := ⟨gb163, 2, none⟩) (Kd.R_far (p := ⟨gb163, 1, none⟩) (Kd.R_far (p := ⟨gb163, 0, none⟩) (Kd.R_types HO_9.out BK163.out (by decide)) (fun _ hk => hk.2) (.int .i64 ((rd_T53 l0 x26_2).f0))) (fun _ hk => hk.2) (.int .i64 ((rd_T53 l0 x26_2).f1))) (fun _ hk => hk.2) (.int .i64 ((rd_T53 l0 x26_2).f2))) (fun _ hk => hk.2) (.int .i64 ((rd_T53 l0 x26_2).f3))) (fun _ hk => hk.2) (.int .i64 ((rd_T53 l0 x26_2).f4))) (fun _ hk => hk.1)⟩
                    have n2_ : Aside0 ((((((w61.setCell ⟨gb163, 0, none⟩ (.int .i64 ((rd_T53 l0 x26_2).f0))).setCell ⟨gb163, 1, none⟩ (.int .i64 ((rd_T53 l0 x26_2).f1))).setCell ⟨gb163, 2, none⟩ (.int .i64 ((rd_T53 l0 x26_2).f2))).setCell ⟨gb163, 3, none⟩ (.int .i64 ((rd_T53 l0 x26_2).f3))).setCell ⟨gb163, 4, none⟩ (.int .i64 ((rd_T53 l0 x26_2).f4))).heap[gb163]? = some (.cells #[.int .i64 ((rd_T53 l0 x26_2).f0), .int .i64 ((rd_T53 l0 x26_2).f1), .int .i64 ((rd_T53 l0 x26_2).f2), .int .i64 ((rd_T53 l0 x26_2).f3), .int .i64 ((rd_T53 l0 x26_2).f4)] 53 (0, 0))) := ⟨by (with_reducible repeat (first | refine blk_drewN ?_ _ | refine blk_drew ?_ | refine blk_alloc ?_ _)); refine blk_put (cs := #[.int .i64 ((rd_T53 l0 x26_2).f0), .int .i64 ((rd_T53 l0 x26_2).f1), .int .i64 ((rd_T53 l0 x26_2).f2), .int .i64 ((rd_T53 l0 x26_2).f3), .int .i64 0]) ?_ 4 _ rfl; (with_reducible repeat (first | refine blk_drewN ?_ _ | refine blk_drew ?_ | refine blk_alloc ?_ _)); refine blk_put (cs := #[.int .i64 ((rd_T53 l0 x26_2).f0), .int .i64 ((rd_T53 l0 x26_2).f1), .int .i64 ((rd_T53 l0 x26_2).f2), .int .i64 0, .int .i64 0]) ?_ 3 _ rfl; (with_reducible repeat (first | refine blk_drewN ?_ _ | refine blk_drew ?_ | refine blk_alloc ?_ _)); refine blk_put (cs := #[.int .i64 ((rd_T53 l0 x26_2).f0), .int .i64 ((rd_T53 l0 x26_2).f1), .int .i64 0, .int .i64 0, .int .i64 0]) ?_ 2 _ rfl; (with_reducible repeat (first | refine blk_drewN ?_ _ | refine blk_drew ?_ | refine blk_alloc ?_ _)); refine blk_put (cs := #[.int .i64 ((rd_T53 l0 x26_2).f0), .int .i64 0, .int .i64 0, .int .i64 0, .int .i64 0]) ?_ 1 _ rfl; (with_reducible repeat (first | refine blk_drewN ?_ _ | refine blk_drew ?_ | refine blk_alloc ?_ _)); refine blk_put (cs := #[.int .i64 0, .int .i64 0, .int .i64 0, .int .i64 0, .int .i64 0]) ?_ 0 _ rfl; (with_reducible repeat (first | refine blk_drewN ?_ _ | refine blk_drew ?_ | refine blk_alloc ?_ _)); exact BK163.out⟩
                    have n3_ : Aside0 (Below w.heap.size w (((((w61.setCell ⟨gb163, 0, none⟩ (.int .i64 ((rd_T53 l0 x26_2).f0))).setCell ⟨gb163, 1, none⟩ (.int .i64 ((rd_T53 l0 x26_2).f1))).setCell ⟨gb163, 2, none⟩ (.int .i64 ((rd_T53 l0 x26_2).f2))).setCell ⟨gb163, 3, none⟩ (.int .i64 ((rd_T53 l0 x26_2).f3))).setCell ⟨gb163, 4, none⟩ (.int .i64 ((rd_T53 l0 x26_2).f4)))) := ⟨by repeat (first | (with_reducible first | exact HB.out | apply below_alloc | apply pw_below_drewN | apply below_drew1 | refine below_set ?_ GE163.out) | exact HB.out | (with_reducible exact Below.refl _ _))⟩
                    (try clear HO_8)
                    (try clear HO_9)
                    (try clear BK163)
                    (try clear HB)
                    generalize (((((w61.setCell ⟨gb163, 0, none⟩ (.int .i64 ((rd_T53 l0 x26_2).f0))).setCell ⟨gb163, 1, none⟩ (.int .i64 ((rd_T53 l0 x26_2).f1))).setCell ⟨gb163, 2, none⟩ (.int .i64 ((rd_T53 l0 x26_2).f2))).setCell ⟨gb163, 3, none⟩ (.int .i64 ((rd_T53 l0 x26_2).f3))).setCell ⟨gb163, 4, none⟩ (.int .i64 ((rd_T53 l0 x26_2).f4))) = w63 at n0_ n1_ n2_ n3_ ⊢
                    have HO_8 := n0_
                    have HO_9 := n1_
                    have BK163 := n2_
                    have HB := n3_
                    clear n0_ n1_ n2_ n3_
                    have n0_ := Aside0.mk (Kd.R_drew HO_8.out)
                    have n1_ := Aside0.mk (Kd.R_drew HO_9.out)
                    have n2_ := Aside0.mk (blk_drew BK163.out)
                    have n3_ := Aside0.mk (below_drew1 HB.out)
                    clear HO_8
                    clear HO_9
                    clear BK163
                    clear HB
                    have HO_8 := n0_
                    have HO_9 := n1_
                    have BK163 := n2_
                    have HB := n3_
                    clear n0_ n1_ n2_ n3_
                    have p165 : 0 ≤ (((rd_T53 l0 x26_2).f0) : Int) := of_decide_eq_true (by first | (with_reducible assumption) | assumption)
                    have q165 : ((rd_T53 l0 x26_2).f0) < (x8_1.length : Int) := of_decide_eq_true (by first | (with_reducible assumption) | assumption)
                    obtain ⟨ad165, e165, hx165_0⟩ := Kd.at_int (Kd.R_reads' HO_8.out).2.2 ((rd_T53 l0 x26_2).f0) p165 q165
                    obtain rfl : (⟨go8, 0, none⟩ : Addr) = ad165 := (by injection e165)
                    (first | simp only [add_plain] at hx165_0 | simp only [add_at] at hx165_0 | simp only [Addr.add, Nat.zero_add] at hx165_0 | skip)
                    replace p165 := eq_true p165
                    replace q165 := eq_true q165
                    refine start_ (n := 12) (S := fun w' => w'.cell? ⟨gb163, 0, none⟩ = some (.int .i64 ((rd_T53 l0 x26_2).f0)) ∧ w'.cell? ⟨gb163, 1, none⟩ = some (.int .i64 ((rd_T53 l0 x26_2).f1)) ∧ w'.cell? ⟨gb163, 2, none⟩ = some (.int .i64 ((rd_T53 l0 x26_2).f2)) ∧ w'.cell? ⟨gb163, 3, none⟩ = some (.int .i64 ((rd_T53 l0 x26_2).f3)) ∧ w'.cell? ⟨gb163, 4, none⟩ = some (.int .i64 ((rd_T53 l0 x26_2).f4)) ∧ w'.cell? ⟨go8, (((rd_T53 l0 x26_2).f0)).toNat, none⟩ = some (.int .i64 (rd x8_1 ((rd_T53 l0 x26_2).f0)))) (ds := []) #[ff,ff,ff,ff,ff,ff,ff,ff,ff,ff,ff,ff] (by kernel_rfl) rfl rfl ⟨(blk_cell BK163.out 0).trans rfl, (blk_cell BK163.out 1).trans rfl, (blk_cell BK163.out 2).trans rfl, (blk_cell BK163.out 3).trans rfl, (blk_cell BK163.out 4).trans rfl, hx165_0⟩ (fun hHeld => ?_); refine with_tabW impl_reach.tab8 impl_reach.bits8 (fun HT_ HW_ => ?_)
                    generalize w63.drew = w64 at HO_8 HO_9 BK163 HB hx165_0 hHeld ⊢
                    refine pure_ (i := 1) (N := some 39) (v := ?_) (a' := ?_) #[ff,tt,ff,ff,ff,ff,ff,ff,ff,ff,ff,ff] rfl rfl (any_of HT_.out (by kernel_rfl)) (fun _ _ _ h => h) (Or.inl ⟨by rfl, ?_⟩) ?_ ?_
                    rotate_left
                    ·intro w'
                     go_simp
                     with_reducible rfl
                    rotate_left
                    ·simp only [Act.put, List.setIfInBounds_toArray, List.set_cons_zero, List.set_cons_succ, i64_w, i32_w]
                     rfl
                    refine pure_ (i := 2) (N := some 40) (v := ?_) (a' := ?_) #[ff,tt,tt,ff,ff,ff,ff,ff,ff,ff,ff,ff] rfl rfl (any_of HT_.out (by kernel_rfl)) (fun _ _ _ h => h) (Or.inl ⟨by rfl, ?_⟩) ?_ ?_
                    rotate_left
                    ·intro w'
                     go_simp
                     with_reducible rfl
                    rotate_left
                    ·simp only [Act.put, List.setIfInBounds_toArray, List.set_cons_zero, List.set_cons_succ, i64_w, i32_w]
                     rfl
                    refine take_ (i := 0) (N := some 38) (v := ?_) (a' := ?_) #[tt,tt,tt,ff,ff,ff,ff,ff,ff,ff,ff,ff] rfl rfl (take_ofW HT_.out HW_.out (by kernel_rfl)) (fun _ _ _ h => h) (Or.inl ⟨by rfl, ?_⟩) hHeld ?_ ?_
                    rotate_left
                    ·rintro w' ⟨s0, s1, s2, s3, s4, s5⟩
                     go_simp
                     with_reducible rfl
                    rotate_left
                    ·simp only [Act.put, List.setIfInBounds_toArray, List.set_cons_zero, List.set_cons_succ, i64_w, i32_w]
                     rfl
                    refine take_ (i := 3) (N := some 41) (v := ?_) (a' := ?_) #[tt,tt,tt,tt,ff,ff,ff,ff,ff,ff,ff,ff] rfl rfl (take_ofW HT_.out HW_.out (by kernel_rfl)) (fun _ _ _ h => h) (Or.inl ⟨by rfl, ?_⟩) hHeld ?_ ?_
                    rotate_left
                    ·rintro w' ⟨s0, s1, s2, s3, s4, s5⟩
                     go_simp
                     with_reducible rfl
                    rotate_left
                    ·simp only [Act.put, List.setIfInBounds_toArray, List.set_cons_zero, List.set_cons_succ, i64_w, i32_w]
                     rfl
                    refine pure_ (i := 4) (N := some 42) (v := ?_) (a' := ?_) #[tt,tt,tt,tt,tt,ff,ff,ff,ff,ff,ff,ff] rfl rfl (any_of HT_.out (by kernel_rfl)) (fun _ _ _ h => h) (Or.inl ⟨by rfl, ?_⟩) ?_ ?_
                    rotate_left
                    ·intro w'
                     go_simp
                     with_reducible rfl
                    rotate_left
                    ·simp only [Act.put, List.setIfInBounds_toArray, List.set_cons_zero, List.set_cons_succ, i64_w, i32_w]
                     rfl
                    refine take_ (i := 5) (N := some 43) (v := ?_) (a' := ?_) #[tt,tt,tt,tt,tt,tt,ff,ff,ff,ff,ff,ff] rfl rfl (take_ofW HT_.out HW_.out (by kernel_rfl)) (fun _ _ _ h => h) (Or.inl ⟨by rfl, ?_⟩) hHeld ?_ ?_
                    rotate_left
                    ·rintro w' ⟨s0, s1, s2, s3, s4, s5⟩
                     go_simp
                     with_reducible rfl
                    rotate_left
                    ·simp only [Act.put, List.setIfInBounds_toArray, List.set_cons_zero, List.set_cons_succ, i64_w, i32_w]
                     rfl
                    refine one_ (i := 6) (N := some 44) #[tt,tt,tt,tt,tt,tt,tt,ff,ff,ff,ff,ff] rfl rfl (one_of HT_.out (by kernel_rfl)) (by decide) (fun K hK => ?_)
                    refine goes_ Try.func64 (by kernel_rfl) rfl #[.agg #[.int .i64 ((rd_T53 l0 x26_2).f0), .int .i64 ((rd_T53 l0 x26_2).f1), .int .i64 ((rd_T53 l0 x26_2).f2), .int .i64 ((rd_T53 l0 x26_2).f3), .int .i64 ((rd_T53 l0 x26_2).f4)], .int .i64 (rd x8_1 ((rd_T53 l0 x26_2).f0))] (by rfl) rfl rfl (by (try simp only [List.map_toArray, List.map_cons, List.map_nil]); first | done | rfl | (simp only [List.length_drop, List.length_take]; rfl)) ?_
                    with_reducible refine (impl_Contact_by.calls ((rd_T53 l0 x26_2).f0) ((rd_T53 l0 x26_2).f1) ((rd_T53 l0 x26_2).f2) ((rd_T53 l0 x26_2).f3) ((rd_T53 l0 x26_2).f4) (rd x8_1 ((rd_T53 l0 x26_2).f0)) t166 true _ A27.out).mono ?_
                    rintro e w65 ⟨rfl, hb⟩
                    have HS5_ := (hb.cell (World.block_lt_of_cell? _ _ (hHeld.2.2.2.2.2))).trans (hHeld.2.2.2.2.2)
                    refine ⟨_, rfl, ?_⟩
                    have n0_ := Aside0.mk (Kd.R_below (by (with_reducible repeat (first | apply Kd.R_alloc | apply Kd.R_drewN | apply Kd.R_drew)); exact HO_8.out) hb)
                    have n1_ := Aside0.mk (Kd.R_below (by (with_reducible repeat (first | apply Kd.R_alloc | apply Kd.R_drewN | apply Kd.R_drew)); exact HO_9.out) hb)
                    have n2_ := Aside0.mk (blk_below (g := gb163) (o := .cells #[.int .i64 ((rd_T53 l0 x26_2).f0), .int .i64 ((rd_T53 l0 x26_2).f1), .int .i64 ((rd_T53 l0 x26_2).f2), .int .i64 ((rd_T53 l0 x26_2).f3), .int .i64 ((rd_T53 l0 x26_2).f4)] 53 (0, 0)) (by (with_reducible repeat (first | refine blk_drewN ?_ _ | refine blk_drew ?_ | refine blk_alloc ?_ _)); exact BK163.out) hb)
                    have n3_ := Aside0.mk (below_step (by repeat (first | (with_reducible first | exact HB.out | apply below_alloc | apply pw_below_drewN | apply below_drew1 | refine below_set ?_ GE163.out) | exact HB.out | (with_reducible exact Below.refl _ _))) hb)
                    clear HO_8
                    clear HO_9
                    clear BK163
                    clear HB
                    have HO_8 := n0_
                    have HO_9 := n1_
                    have BK163 := n2_
                    have HB := n3_
                    clear n0_ n1_ n2_ n3_
                    (try clear hb)
                    (try clear hb2)
                    (try clear hk)
                    (try clear hi)
                    refine hK.out _ _ ⟨(blk_cell BK163.out 0).trans rfl, (blk_cell BK163.out 1).trans rfl, (blk_cell BK163.out 2).trans rfl, (blk_cell BK163.out 3).trans rfl, (blk_cell BK163.out 4).trans rfl, HS5_⟩ (fun hHeld => ?_)
                    clear hK K
                    refine norm_ (a' := ?_) ?_ ?_
                    rotate_left
                    ·show Act.put _ (some 44) _ = _
                     simp only [Act.put, List.setIfInBounds_toArray, List.set_cons_zero, List.set_cons_succ, i64_w, i32_w]
                     rfl
                    refine pure_ (i := 7) (N := some 37) (v := ?_) (a' := ?_) #[tt,tt,tt,tt,tt,tt,tt,tt,ff,ff,ff,ff] rfl rfl (any_of HT_.out (by kernel_rfl)) (fun _ _ _ h => h) (Or.inl ⟨by rfl, ?_⟩) ?_ ?_
                    rotate_left
                    ·intro w'
                     go_simp
                     with_reducible rfl
                    rotate_left
                    ·simp only [Act.put, List.setIfInBounds_toArray, List.set_cons_zero, List.set_cons_succ, i64_w, i32_w]
                     rfl
                    refine pure_ (i := 8) (N := some 45) (v := ?_) (a' := ?_) #[tt,tt,tt,tt,tt,tt,tt,tt,tt,ff,ff,ff] rfl rfl (any_of HT_.out (by kernel_rfl)) (fun _ _ _ h => h) (Or.inl ⟨by rfl, ?_⟩) ?_ ?_
                    rotate_left
                    ·intro w'
                     go_simp
                     with_reducible rfl
                    rotate_left
                    ·simp only [Act.put, List.setIfInBounds_toArray, List.set_cons_zero, List.set_cons_succ, i64_w, i32_w]
                     rfl
                    refine pure_ (i := 9) (N := some 46) (v := ?_) (a' := ?_) #[tt,tt,tt,tt,tt,tt,tt,tt,tt,tt,ff,ff] rfl rfl (any_of HT_.out (by kernel_rfl)) (fun _ _ _ h => h) (Or.inl ⟨by rfl, ?_⟩) ?_ ?_
                    rotate_left
                    ·intro w'
                     go_simp
                     with_reducible rfl
                    rotate_left
                    ·simp only [Act.put, List.setIfInBounds_toArray, List.set_cons_zero, List.set_cons_succ, i64_w, i32_w]
                     rfl
                    refine pure_ (i := 10) (N := some 14) (v := ?_) (a' := ?_) #[tt,tt,tt,tt,tt,tt,tt,tt,tt,tt,tt,ff] rfl rfl (any_of HT_.out (by kernel_rfl)) (fun _ _ _ h => h) (Or.inl ⟨by rfl, ?_⟩) ?_ ?_
                    rotate_left
                    ·intro w'
                     go_simp
                     with_reducible rfl
                    rotate_left
                    ·simp only [Act.put, List.setIfInBounds_toArray, List.set_cons_zero, List.set_cons_succ, i64_w, i32_w]
                     rfl
                    refine pure_ (i := 11) (N := some 15) (v := ?_) (a' := ?_) #[tt,tt,tt,tt,tt,tt,tt,tt,tt,tt,tt,tt] rfl rfl (any_of HT_.out (by kernel_rfl)) (fun _ _ _ h => h) (Or.inl ⟨by rfl, ?_⟩) ?_ ?_
                    rotate_left
                    ·intro w'
                     go_simp
                     with_reducible rfl
                    rotate_left
                    ·simp only [Act.put, List.setIfInBounds_toArray, List.set_cons_zero, List.set_cons_succ, i64_w, i32_w]
                     rfl
                    refine done_ (done_of HT_.out (by kernel_rfl)) ?_
                    have hcz66_0 : w65.cell? ⟨gb163, 0, none⟩ = some (.int .i64 ((rd_T53 l0 x26_2).f0)) := (blk_cell BK163.out 0).trans rfl
                    have hcz66_1 : w65.cell? ⟨gb163, 1, none⟩ = some (.int .i64 ((rd_T53 l0 x26_2).f1)) := (blk_cell BK163.out 1).trans rfl
                    have hcz66_2 : w65.cell? ⟨gb163, 2, none⟩ = some (.int .i64 ((rd_T53 l0 x26_2).f2)) := (blk_cell BK163.out 2).trans rfl
                    have hcz66_3 : w65.cell? ⟨gb163, 3, none⟩ = some (.int .i64 ((rd_T53 l0 x26_2).f3)) := (blk_cell BK163.out 3).trans rfl
                    have hcz66_4 : w65.cell? ⟨gb163, 4, none⟩ = some (.int .i64 ((rd_T53 l0 x26_2).f4)) := (blk_cell BK163.out 4).trans rfl
                    have hfz66_0 := blk_frozen BK163.out 0
                    have hfz66_1 := blk_frozen BK163.out 1
                    have hfz66_2 := blk_frozen BK163.out 2
                    have hfz66_3 := blk_frozen BK163.out 3
                    have hfz66_4 := blk_frozen BK163.out 4
                    have p168 : 0 ≤ (((rd_T53 l0 x26_2).f1) : Int) := of_decide_eq_true (by first | (with_reducible assumption) | assumption)
                    have q168 : ((rd_T53 l0 x26_2).f1) < (x8_1.length : Int) := of_decide_eq_true (by first | (with_reducible assumption) | assumption)
                    obtain ⟨ad168, e168, hx168_0⟩ := Kd.at_int (Kd.R_reads' HO_8.out).2.2 ((rd_T53 l0 x26_2).f1) p168 q168
                    obtain rfl : (⟨go8, 0, none⟩ : Addr) = ad168 := (by injection e168)
                    (first | simp only [add_plain] at hx168_0 | simp only [add_at] at hx168_0 | simp only [Addr.add, Nat.zero_add] at hx168_0 | skip)
                    replace p168 := eq_true p168
                    replace q168 := eq_true q168
                    have p169 : 0 ≤ (((rd_T53 l0 x26_2).f1) : Int) := of_decide_eq_true (by first | (with_reducible assumption) | assumption)
                    have q169 : ((rd_T53 l0 x26_2).f1) < (x8_1.length : Int) := of_decide_eq_true (by first | (with_reducible assumption) | assumption)
                    obtain ⟨ad169, e169, hx169_0⟩ := Kd.at_int (Kd.R_reads' HO_8.out).2.2 ((rd_T53 l0 x26_2).f1) p169 q169
                    obtain rfl : (⟨go8, 0, none⟩ : Addr) = ad169 := (by injection e169)
                    (first | simp only [add_plain] at hx169_0 | simp only [add_at] at hx169_0 | simp only [Addr.add, Nat.zero_add] at hx169_0 | skip)
                    replace p169 := eq_true p169
                    replace q169 := eq_true q169
                    try go_wp2
                    go_roundg k2
                    case measure => have := HK1.out; have := HK2.out; omega
                    case rel => exact ⟨(x26_2), (t166), (wrap64 (x26_2 + 1)), (by first | rfl | (simp; done) | (simp [*]; done)), (by first | rfl | (simp; done) | (simp [*]; done)), (by first | rfl | (simp; done) | (simp [*]; done)), H', ⟨by have := HK1.out; have := HK2.out; omega⟩, ⟨by (try simp only [hl8_1]); (with_reducible repeat (first | apply Kd.R_alloc | apply Kd.R_drewN | apply Kd.R_drew)); exact HO_8.out⟩, ⟨by (try simp only [hl8_1]); (with_reducible repeat (first | apply Kd.R_alloc | apply Kd.R_drewN | apply Kd.R_drew)); exact HO_9.out⟩, ⟨by repeat (first | (with_reducible first | exact HB.out | apply below_alloc | apply pw_below_drewN | apply below_drew1 | refine below_set ?_ GE163.out) | exact HB.out | (with_reducible exact Below.refl _ _))⟩⟩
                   ·rw [if_neg c60] at H
                    have c60b0 : decide (t166 < x11_2) = false := decide_eq_false c60
                    clear c60
                    have H' := Aside0.mk H
                    clear H
                    have p162 : 0 ≤ (x26_2 : Int) := of_decide_eq_true (by first | (with_reducible assumption) | assumption)
                    have q162 : x26_2 < (l0.length : Int) := of_decide_eq_true (by first | (with_reducible assumption) | assumption)
                    obtain ⟨ad162, e162, hx162_0, hx162_1, hx162_2, hx162_3, hx162_4⟩ := at_T53 HR0.out x26_2 p162 q162
                    cases e162
                    replace hx162_0 := (HB.out.cell (World.block_lt_of_cell? w _ hx162_0)).trans hx162_0
                    replace hx162_1 := (HB.out.cell (World.block_lt_of_cell? w _ hx162_1)).trans hx162_1
                    replace hx162_2 := (HB.out.cell (World.block_lt_of_cell? w _ hx162_2)).trans hx162_2
                    replace hx162_3 := (HB.out.cell (World.block_lt_of_cell? w _ hx162_3)).trans hx162_3
                    replace hx162_4 := (HB.out.cell (World.block_lt_of_cell? w _ hx162_4)).trans hx162_4
                    replace p162 := eq_true p162
                    replace q162 := eq_true q162
                    try go_wp2_with (first | ((with_reducible refine gate_dst (N := 13) rfl ?_); refine box_event ?hg (N := 13) ?hd (cs := #[.int .i64 0, .int .i64 0, .int .i64 0, .int .i64 0, .int .i64 0]) (t := 53) ?hr ?_; (case hd => rfl); (case hg => rfl); (case hr => first | (go_simp; done) | (go_simp; rfl)); intro gb163 hg w67 hbox hb; have n0_ := Aside0.mk (Kd.R_below (by (with_reducible repeat (first | apply Kd.R_alloc | apply Kd.R_drewN | apply Kd.R_drew)); exact HO_8.out) hb); have n1_ := Aside0.mk (Kd.R_below (by (with_reducible repeat (first | apply Kd.R_alloc | apply Kd.R_drewN | apply Kd.R_drew)); exact HO_9.out) hb); have n2_ := Aside0.mk (below_step (by repeat (first | (with_reducible first | exact HB.out | apply below_alloc | apply pw_below_drewN | apply below_drew1) | exact HB.out | (with_reducible exact Below.refl _ _))) hb); have n3_ := Aside0.mk (hbox); have n4_ := Aside0.mk ((by rw [hg]; exact (below_size (by repeat (first | (with_reducible first | exact HB.out | apply below_alloc | apply pw_below_drewN | apply below_drew1) | exact HB.out | (with_reducible exact Below.refl _ _)))) : w.heap.size ≤ gb163)); have n5_ := Aside0.mk ((by rw [hg]; exact (below_size (by repeat (first | (with_reducible first | exact HB.out | apply below_alloc | apply pw_below_drewN | apply below_drew1) | exact HB.out | (with_reducible exact Below.refl _ _)))) : w.heap.size ≤ gb163)); clear HO_8; clear HO_9; clear HB; have HO_8 := n0_; have HO_9 := n1_; have HB := n2_; have BK163 := n3_; have GW163 := n4_; have GE163 := n5_; clear n0_ n1_ n2_ n3_ n4_ n5_; clear hb hbox hg; have hcz68_0 : w67.cell? ⟨gb163, 0, none⟩ = some (.int .i64 0) := (blk_cell BK163.out 0).trans rfl; have hcz68_1 : w67.cell? ⟨gb163, 1, none⟩ = some (.int .i64 0) := (blk_cell BK163.out 1).trans rfl; have hcz68_2 : w67.cell? ⟨gb163, 2, none⟩ = some (.int .i64 0) := (blk_cell BK163.out 2).trans rfl; have hcz68_3 : w67.cell? ⟨gb163, 3, none⟩ = some (.int .i64 0) := (blk_cell BK163.out 3).trans rfl; have hcz68_4 : w67.cell? ⟨gb163, 4, none⟩ = some (.int .i64 0) := (blk_cell BK163.out 4).trans rfl; have hfz68_0 := blk_frozen BK163.out 0; have hfz68_1 := blk_frozen BK163.out 1; have hfz68_2 := blk_frozen BK163.out 2; have hfz68_3 := blk_frozen BK163.out 3; have hfz68_4 := blk_frozen BK163.out 4; have p164 : 0 ≤ (((rd_T53 l0 x26_2).f0) : Int) := of_decide_eq_true (by first | (with_reducible assumption) | assumption); have q164 : ((rd_T53 l0 x26_2).f0) < (x8_1.length : Int) := of_decide_eq_true (by first | (with_reducible assumption) | assumption); obtain ⟨ad164, e164, hx164_0⟩ := Kd.at_int (Kd.R_reads' HO_8.out).2.2 ((rd_T53 l0 x26_2).f0) p164 q164; obtain rfl : (⟨go8, 0, none⟩ : Addr) = ad164 := (by injection e164); (first | simp only [add_plain] at hx164_0 | simp only [add_at] at hx164_0 | simp only [Addr.add, Nat.zero_add] at hx164_0 | skip); have hn164_0 : (⟨go8, 0, none⟩ : Addr).block ≠ gb163 := Kd.own_blk (Kd.R_ne HO_8.out BK163.out (by decide)); have hn164_1 : (⟨go8, 0, none⟩ : Addr).block ≠ gb163 := Kd.own_blk (Kd.R_ne HO_8.out BK163.out (by decide)); have hn164_2 : (⟨go8, 0, none⟩ : Addr).block ≠ gb163 := Kd.own_blk (Kd.R_ne HO_8.out BK163.out (by decide)); have hn164_3 : (⟨go8, 0, none⟩ : Addr).block ≠ gb163 := Kd.own_blk (Kd.R_ne HO_8.out BK163.out (by decide)); have hn164_4 : (⟨go8, 0, none⟩ : Addr).block ≠ gb163 := Kd.own_blk (Kd.R_ne HO_8.out BK163.out (by decide)); replace hx164_0 := (cell_far (p := ⟨gb163, 0, none⟩) (by first | (rw [add_block]; exact hn164_0) | (show (Addr.add _ _).block ≠ _; rw [add_block]; exact hn164_0) | exact hn164_0) (.int .i64 ((rd_T53 l0 x26_2).f0))).trans hx164_0; replace hx164_0 := (cell_far (p := ⟨gb163, 1, none⟩) (by first | (rw [add_block]; exact hn164_1) | (show (Addr.add _ _).block ≠ _; rw [add_block]; exact hn164_1) | exact hn164_1) (.int .i64 ((rd_T53 l0 x26_2).f1))).trans hx164_0; replace hx164_0 := (cell_far (p := ⟨gb163, 2, none⟩) (by first | (rw [add_block]; exact hn164_2) | (show (Addr.add _ _).block ≠ _; rw [add_block]; exact hn164_2) | exact hn164_2) (.int .i64 ((rd_T53 l0 x26_2).f2))).trans hx164_0; replace hx164_0 := (cell_far (p := ⟨gb163, 3, none⟩) (by first | (rw [add_block]; exact hn164_3) | (show (Addr.add _ _).block ≠ _; rw [add_block]; exact hn164_3) | exact hn164_3) (.int .i64 ((rd_T53 l0 x26_2).f3))).trans hx164_0; replace hx164_0 := (cell_far (p := ⟨gb163, 4, none⟩) (by first | (rw [add_block]; exact hn164_4) | (show (Addr.add _ _).block ≠ _; rw [add_block]; exact hn164_4) | exact hn164_4) (.int .i64 ((rd_T53 l0 x26_2).f4))).trans hx164_0; clear hn164_0; clear hn164_1; clear hn164_2; clear hn164_3; clear hn164_4; replace p164 := eq_true p164; replace q164 := eq_true q164))
                    have n0_ : Aside0 (Kd.R (Kd.int .i64) 3 (((((w67.setCell ⟨gb163, 0, none⟩ (.int .i64 ((rd_T53 l0 x26_2).f0))).setCell ⟨gb163, 1, none⟩ (.int .i64 ((rd_T53 l0 x26_2).f1))).setCell ⟨gb163, 2, none⟩ (.int .i64 ((rd_T53 l0 x26_2).f2))).setCell ⟨gb163, 3, none⟩ (.int .i64 ((rd_T53 l0 x26_2).f3))).setCell ⟨gb163, 4, none⟩ (.int .i64 ((rd_T53 l0 x26_2).f4))) w.heap.size (fun k_ => some k_ ≠ (v155 : Value).ownBlock) (.slice (some ⟨go8, 0, none⟩) x8_1.length co8) x8_1) := ⟨by (with_reducible repeat (first | apply Kd.R_alloc | apply Kd.R_drewN | apply Kd.R_drew)); exact Kd.R_mono (Kd.R_far (p := ⟨gb163, 4, none⟩) (Kd.R_far (p := ⟨gb163, 3, none⟩) (Kd.R_far (p := ⟨gb163, 2, none⟩) (Kd.R_far (p := ⟨gb163, 1, none⟩) (Kd.R_far (p := ⟨gb163, 0, none⟩) (Kd.R_types HO_8.out BK163.out (by decide)) (fun _ hk => hk.2) (.int .i64 ((rd_T53 l0 x26_2).f0))) (fun _ hk => hk.2) (.int .i64 ((rd_T53 l0 x26_2).f1))) (fun _ hk => hk.2) (.int .i64 ((rd_T53 l0 x26_2).f2))) (fun _ hk => hk.2) (.int .i64 ((rd_T53 l0 x26_2).f3))) (fun _ hk => hk.2) (.int .i64 ((rd_T53 l0 x26_2).f4))) (fun _ hk => hk.1)⟩
                    have n1_ : Aside0 (Kd.R (Kd.int .i64) 3 (((((w67.setCell ⟨gb163, 0, none⟩ (.int .i64 ((rd_T53 l0 x26_2).f0))).setCell ⟨gb163, 1, none⟩ (.int .i64 ((rd_T53 l0 x26_2).f1))).setCell ⟨gb163, 2, none⟩ (.int .i64 ((rd_T53 l0 x26_2).f2))).setCell ⟨gb163, 3, none⟩ (.int .i64 ((rd_T53 l0 x26_2).f3))).setCell ⟨gb163, 4, none⟩ (.int .i64 ((rd_T53 l0 x26_2).f4))) w.heap.size (fun k_ => some k_ ≠ (.slice (some ⟨go8, 0, none⟩) x8_1.length co8 : Value).ownBlock) v155 x9_1) := ⟨by (with_reducible repeat (first | apply Kd.R_alloc | apply Kd.R_drewN | apply Kd.R_drew)); exact Kd.R_mono (Kd.R_far (p := ⟨gb163, 4, none⟩) (Kd.R_far (p := ⟨gb163, 3, none⟩) (Kd.R_far (p := ⟨gb163, 2, none⟩) (Kd.R_far (p := ⟨gb163, 1, none⟩) (Kd.R_far (p := ⟨gb163, 0, none⟩) (Kd.R_types HO_9.out BK163.out (by decide)) (fun _ hk => hk.2) (.int .i64 ((rd_T53 l0 x26_2).f0))) (fun _ hk => hk.2) (.int .i64 ((rd_T53 l0 x26_2).f1))) (fun _ hk => hk.2) (.int .i64 ((rd_T53 l0 x26_2).f2))) (fun _ hk => hk.2) (.int .i64 ((rd_T53 l0 x26_2).f3))) (fun _ hk => hk.2) (.int .i64 ((rd_T53 l0 x26_2).f4))) (fun _ hk => hk.1)⟩
                    have n2_ : Aside0 ((((((w67.setCell ⟨gb163, 0, none⟩ (.int .i64 ((rd_T53 l0 x26_2).f0))).setCell ⟨gb163, 1, none⟩ (.int .i64 ((rd_T53 l0 x26_2).f1))).setCell ⟨gb163, 2, none⟩ (.int .i64 ((rd_T53 l0 x26_2).f2))).setCell ⟨gb163, 3, none⟩ (.int .i64 ((rd_T53 l0 x26_2).f3))).setCell ⟨gb163, 4, none⟩ (.int .i64 ((rd_T53 l0 x26_2).f4))).heap[gb163]? = some (.cells #[.int .i64 ((rd_T53 l0 x26_2).f0), .int .i64 ((rd_T53 l0 x26_2).f1), .int .i64 ((rd_T53 l0 x26_2).f2), .int .i64 ((rd_T53 l0 x26_2).f3), .int .i64 ((rd_T53 l0 x26_2).f4)] 53 (0, 0))) := ⟨by (with_reducible repeat (first | refine blk_drewN ?_ _ | refine blk_drew ?_ | refine blk_alloc ?_ _)); refine blk_put (cs := #[.int .i64 ((rd_T53 l0 x26_2).f0), .int .i64 ((rd_T53 l0 x26_2).f1), .int .i64 ((rd_T53 l0 x26_2).f2), .int .i64 ((rd_T53 l0 x26_2).f3), .int .i64 0]) ?_ 4 _ rfl; (with_reducible repeat (first | refine blk_drewN ?_ _ | refine blk_drew ?_ | refine blk_alloc ?_ _)); refine blk_put (cs := #[.int .i64 ((rd_T53 l0 x26_2).f0), .int .i64 ((rd_T53 l0 x26_2).f1), .int .i64 ((rd_T53 l0 x26_2).f2), .int .i64 0, .int .i64 0]) ?_ 3 _ rfl; (with_reducible repeat (first | refine blk_drewN ?_ _ | refine blk_drew ?_ | refine blk_alloc ?_ _)); refine blk_put (cs := #[.int .i64 ((rd_T53 l0 x26_2).f0), .int .i64 ((rd_T53 l0 x26_2).f1), .int .i64 0, .int .i64 0, .int .i64 0]) ?_ 2 _ rfl; (with_reducible repeat (first | refine blk_drewN ?_ _ | refine blk_drew ?_ | refine blk_alloc ?_ _)); refine blk_put (cs := #[.int .i64 ((rd_T53 l0 x26_2).f0), .int .i64 0, .int .i64 0, .int .i64 0, .int .i64 0]) ?_ 1 _ rfl; (with_reducible repeat (first | refine blk_drewN ?_ _ | refine blk_drew ?_ | refine blk_alloc ?_ _)); refine blk_put (cs := #[.int .i64 0, .int .i64 0, .int .i64 0, .int .i64 0, .int .i64 0]) ?_ 0 _ rfl; (with_reducible repeat (first | refine blk_drewN ?_ _ | refine blk_drew ?_ | refine blk_alloc ?_ _)); exact BK163.out⟩
                    have n3_ : Aside0 (Below w.heap.size w (((((w67.setCell ⟨gb163, 0, none⟩ (.int .i64 ((rd_T53 l0 x26_2).f0))).setCell ⟨gb163, 1, none⟩ (.int .i64 ((rd_T53 l0 x26_2).f1))).setCell ⟨gb163, 2, none⟩ (.int .i64 ((rd_T53 l0 x26_2).f2))).setCell ⟨gb163, 3, none⟩ (.int .i64 ((rd_T53 l0 x26_2).f3))).setCell ⟨gb163, 4, none⟩ (.int .i64 ((rd_T53 l0 x26_2).f4)))) := ⟨by repeat (first | (with_reducible first | exact HB.out | apply below_alloc | apply pw_below_drewN | apply below_drew1 | refine below_set ?_ GE163.out) | exact HB.out | (with_reducible exact Below.refl _ _))⟩
                    (try clear HO_8)
                    (try clear HO_9)
                    (try clear BK163)
                    (try clear HB)
                    generalize (((((w67.setCell ⟨gb163, 0, none⟩ (.int .i64 ((rd_T53 l0 x26_2).f0))).setCell ⟨gb163, 1, none⟩ (.int .i64 ((rd_T53 l0 x26_2).f1))).setCell ⟨gb163, 2, none⟩ (.int .i64 ((rd_T53 l0 x26_2).f2))).setCell ⟨gb163, 3, none⟩ (.int .i64 ((rd_T53 l0 x26_2).f3))).setCell ⟨gb163, 4, none⟩ (.int .i64 ((rd_T53 l0 x26_2).f4))) = w69 at n0_ n1_ n2_ n3_ ⊢
                    have HO_8 := n0_
                    have HO_9 := n1_
                    have BK163 := n2_
                    have HB := n3_
                    clear n0_ n1_ n2_ n3_
                    have n0_ := Aside0.mk (Kd.R_drew HO_8.out)
                    have n1_ := Aside0.mk (Kd.R_drew HO_9.out)
                    have n2_ := Aside0.mk (blk_drew BK163.out)
                    have n3_ := Aside0.mk (below_drew1 HB.out)
                    clear HO_8
                    clear HO_9
                    clear BK163
                    clear HB
                    have HO_8 := n0_
                    have HO_9 := n1_
                    have BK163 := n2_
                    have HB := n3_
                    clear n0_ n1_ n2_ n3_
                    have p165 : 0 ≤ (((rd_T53 l0 x26_2).f0) : Int) := of_decide_eq_true (by first | (with_reducible assumption) | assumption)
                    have q165 : ((rd_T53 l0 x26_2).f0) < (x8_1.length : Int) := of_decide_eq_true (by first | (with_reducible assumption) | assumption)
                    obtain ⟨ad165, e165, hx165_0⟩ := Kd.at_int (Kd.R_reads' HO_8.out).2.2 ((rd_T53 l0 x26_2).f0) p165 q165
                    obtain rfl : (⟨go8, 0, none⟩ : Addr) = ad165 := (by injection e165)
                    (first | simp only [add_plain] at hx165_0 | simp only [add_at] at hx165_0 | simp only [Addr.add, Nat.zero_add] at hx165_0 | skip)
                    replace p165 := eq_true p165
                    replace q165 := eq_true q165
                    refine start_ (n := 12) (S := fun w' => w'.cell? ⟨gb163, 0, none⟩ = some (.int .i64 ((rd_T53 l0 x26_2).f0)) ∧ w'.cell? ⟨gb163, 1, none⟩ = some (.int .i64 ((rd_T53 l0 x26_2).f1)) ∧ w'.cell? ⟨gb163, 2, none⟩ = some (.int .i64 ((rd_T53 l0 x26_2).f2)) ∧ w'.cell? ⟨gb163, 3, none⟩ = some (.int .i64 ((rd_T53 l0 x26_2).f3)) ∧ w'.cell? ⟨gb163, 4, none⟩ = some (.int .i64 ((rd_T53 l0 x26_2).f4)) ∧ w'.cell? ⟨go8, (((rd_T53 l0 x26_2).f0)).toNat, none⟩ = some (.int .i64 (rd x8_1 ((rd_T53 l0 x26_2).f0)))) (ds := []) #[ff,ff,ff,ff,ff,ff,ff,ff,ff,ff,ff,ff] (by kernel_rfl) rfl rfl ⟨(blk_cell BK163.out 0).trans rfl, (blk_cell BK163.out 1).trans rfl, (blk_cell BK163.out 2).trans rfl, (blk_cell BK163.out 3).trans rfl, (blk_cell BK163.out 4).trans rfl, hx165_0⟩ (fun hHeld => ?_); refine with_tabW impl_reach.tab8 impl_reach.bits8 (fun HT_ HW_ => ?_)
                    generalize w69.drew = w70 at HO_8 HO_9 BK163 HB hx165_0 hHeld ⊢
                    refine pure_ (i := 1) (N := some 39) (v := ?_) (a' := ?_) #[ff,tt,ff,ff,ff,ff,ff,ff,ff,ff,ff,ff] rfl rfl (any_of HT_.out (by kernel_rfl)) (fun _ _ _ h => h) (Or.inl ⟨by rfl, ?_⟩) ?_ ?_
                    rotate_left
                    ·intro w'
                     go_simp
                     with_reducible rfl
                    rotate_left
                    ·simp only [Act.put, List.setIfInBounds_toArray, List.set_cons_zero, List.set_cons_succ, i64_w, i32_w]
                     rfl
                    refine pure_ (i := 2) (N := some 40) (v := ?_) (a' := ?_) #[ff,tt,tt,ff,ff,ff,ff,ff,ff,ff,ff,ff] rfl rfl (any_of HT_.out (by kernel_rfl)) (fun _ _ _ h => h) (Or.inl ⟨by rfl, ?_⟩) ?_ ?_
                    rotate_left
                    ·intro w'
                     go_simp
                     with_reducible rfl
                    rotate_left
                    ·simp only [Act.put, List.setIfInBounds_toArray, List.set_cons_zero, List.set_cons_succ, i64_w, i32_w]
                     rfl
                    refine take_ (i := 0) (N := some 38) (v := ?_) (a' := ?_) #[tt,tt,tt,ff,ff,ff,ff,ff,ff,ff,ff,ff] rfl rfl (take_ofW HT_.out HW_.out (by kernel_rfl)) (fun _ _ _ h => h) (Or.inl ⟨by rfl, ?_⟩) hHeld ?_ ?_
                    rotate_left
                    ·rintro w' ⟨s0, s1, s2, s3, s4, s5⟩
                     go_simp
                     with_reducible rfl
                    rotate_left
                    ·simp only [Act.put, List.setIfInBounds_toArray, List.set_cons_zero, List.set_cons_succ, i64_w, i32_w]
                     rfl
                    refine take_ (i := 3) (N := some 41) (v := ?_) (a' := ?_) #[tt,tt,tt,tt,ff,ff,ff,ff,ff,ff,ff,ff] rfl rfl (take_ofW HT_.out HW_.out (by kernel_rfl)) (fun _ _ _ h => h) (Or.inl ⟨by rfl, ?_⟩) hHeld ?_ ?_
                    rotate_left
                    ·rintro w' ⟨s0, s1, s2, s3, s4, s5⟩
                     go_simp
                     with_reducible rfl
                    rotate_left
                    ·simp only [Act.put, List.setIfInBounds_toArray, List.set_cons_zero, List.set_cons_succ, i64_w, i32_w]
                     rfl
                    refine pure_ (i := 4) (N := some 42) (v := ?_) (a' := ?_) #[tt,tt,tt,tt,tt,ff,ff,ff,ff,ff,ff,ff] rfl rfl (any_of HT_.out (by kernel_rfl)) (fun _ _ _ h => h) (Or.inl ⟨by rfl, ?_⟩) ?_ ?_
                    rotate_left
                    ·intro w'
                     go_simp
                     with_reducible rfl
                    rotate_left
                    ·simp only [Act.put, List.setIfInBounds_toArray, List.set_cons_zero, List.set_cons_succ, i64_w, i32_w]
                     rfl
                    refine take_ (i := 5) (N := some 43) (v := ?_) (a' := ?_) #[tt,tt,tt,tt,tt,tt,ff,ff,ff,ff,ff,ff] rfl rfl (take_ofW HT_.out HW_.out (by kernel_rfl)) (fun _ _ _ h => h) (Or.inl ⟨by rfl, ?_⟩) hHeld ?_ ?_
                    rotate_left
                    ·rintro w' ⟨s0, s1, s2, s3, s4, s5⟩
                     go_simp
                     with_reducible rfl
                    rotate_left
                    ·simp only [Act.put, List.setIfInBounds_toArray, List.set_cons_zero, List.set_cons_succ, i64_w, i32_w]
                     rfl
                    refine one_ (i := 6) (N := some 44) #[tt,tt,tt,tt,tt,tt,tt,ff,ff,ff,ff,ff] rfl rfl (one_of HT_.out (by kernel_rfl)) (by decide) (fun K hK => ?_)
                    refine goes_ Try.func64 (by kernel_rfl) rfl #[.agg #[.int .i64 ((rd_T53 l0 x26_2).f0), .int .i64 ((rd_T53 l0 x26_2).f1), .int .i64 ((rd_T53 l0 x26_2).f2), .int .i64 ((rd_T53 l0 x26_2).f3), .int .i64 ((rd_T53 l0 x26_2).f4)], .int .i64 (rd x8_1 ((rd_T53 l0 x26_2).f0))] (by rfl) rfl rfl (by (try simp only [List.map_toArray, List.map_cons, List.map_nil]); first | done | rfl | (simp only [List.length_drop, List.length_take]; rfl)) ?_
                    with_reducible refine (impl_Contact_by.calls ((rd_T53 l0 x26_2).f0) ((rd_T53 l0 x26_2).f1) ((rd_T53 l0 x26_2).f2) ((rd_T53 l0 x26_2).f3) ((rd_T53 l0 x26_2).f4) (rd x8_1 ((rd_T53 l0 x26_2).f0)) t166 true _ A27.out).mono ?_
                    rintro e w71 ⟨rfl, hb⟩
                    have HS5_ := (hb.cell (World.block_lt_of_cell? _ _ (hHeld.2.2.2.2.2))).trans (hHeld.2.2.2.2.2)
                    refine ⟨_, rfl, ?_⟩
                    have n0_ := Aside0.mk (Kd.R_below (by (with_reducible repeat (first | apply Kd.R_alloc | apply Kd.R_drewN | apply Kd.R_drew)); exact HO_8.out) hb)
                    have n1_ := Aside0.mk (Kd.R_below (by (with_reducible repeat (first | apply Kd.R_alloc | apply Kd.R_drewN | apply Kd.R_drew)); exact HO_9.out) hb)
                    have n2_ := Aside0.mk (blk_below (g := gb163) (o := .cells #[.int .i64 ((rd_T53 l0 x26_2).f0), .int .i64 ((rd_T53 l0 x26_2).f1), .int .i64 ((rd_T53 l0 x26_2).f2), .int .i64 ((rd_T53 l0 x26_2).f3), .int .i64 ((rd_T53 l0 x26_2).f4)] 53 (0, 0)) (by (with_reducible repeat (first | refine blk_drewN ?_ _ | refine blk_drew ?_ | refine blk_alloc ?_ _)); exact BK163.out) hb)
                    have n3_ := Aside0.mk (below_step (by repeat (first | (with_reducible first | exact HB.out | apply below_alloc | apply pw_below_drewN | apply below_drew1 | refine below_set ?_ GE163.out) | exact HB.out | (with_reducible exact Below.refl _ _))) hb)
                    clear HO_8
                    clear HO_9
                    clear BK163
                    clear HB
                    have HO_8 := n0_
                    have HO_9 := n1_
                    have BK163 := n2_
                    have HB := n3_
                    clear n0_ n1_ n2_ n3_
                    (try clear hb)
                    (try clear hb2)
                    (try clear hk)
                    (try clear hi)
                    refine hK.out _ _ ⟨(blk_cell BK163.out 0).trans rfl, (blk_cell BK163.out 1).trans rfl, (blk_cell BK163.out 2).trans rfl, (blk_cell BK163.out 3).trans rfl, (blk_cell BK163.out 4).trans rfl, HS5_⟩ (fun hHeld => ?_)
                    clear hK K
                    refine norm_ (a' := ?_) ?_ ?_
                    rotate_left
                    ·show Act.put _ (some 44) _ = _
                     simp only [Act.put, List.setIfInBounds_toArray, List.set_cons_zero, List.set_cons_succ, i64_w, i32_w]
                     rfl
                    refine pure_ (i := 7) (N := some 37) (v := ?_) (a' := ?_) #[tt,tt,tt,tt,tt,tt,tt,tt,ff,ff,ff,ff] rfl rfl (any_of HT_.out (by kernel_rfl)) (fun _ _ _ h => h) (Or.inl ⟨by rfl, ?_⟩) ?_ ?_
                    rotate_left
                    ·intro w'
                     go_simp
                     with_reducible rfl
                    rotate_left
                    ·simp only [Act.put, List.setIfInBounds_toArray, List.set_cons_zero, List.set_cons_succ, i64_w, i32_w]
                     rfl
                    refine pure_ (i := 8) (N := some 45) (v := ?_) (a' := ?_) #[tt,tt,tt,tt,tt,tt,tt,tt,tt,ff,ff,ff] rfl rfl (any_of HT_.out (by kernel_rfl)) (fun _ _ _ h => h) (Or.inl ⟨by rfl, ?_⟩) ?_ ?_
                    rotate_left
                    ·intro w'
                     go_simp
                     with_reducible rfl
                    rotate_left
                    ·simp only [Act.put, List.setIfInBounds_toArray, List.set_cons_zero, List.set_cons_succ, i64_w, i32_w]
                     rfl
                    refine pure_ (i := 9) (N := some 46) (v := ?_) (a' := ?_) #[tt,tt,tt,tt,tt,tt,tt,tt,tt,tt,ff,ff] rfl rfl (any_of HT_.out (by kernel_rfl)) (fun _ _ _ h => h) (Or.inl ⟨by rfl, ?_⟩) ?_ ?_
                    rotate_left
                    ·intro w'
                     go_simp
                     with_reducible rfl
                    rotate_left
                    ·simp only [Act.put, List.setIfInBounds_toArray, List.set_cons_zero, List.set_cons_succ, i64_w, i32_w]
                     rfl
                    refine pure_ (i := 10) (N := some 14) (v := ?_) (a' := ?_) #[tt,tt,tt,tt,tt,tt,tt,tt,tt,tt,tt,ff] rfl rfl (any_of HT_.out (by kernel_rfl)) (fun _ _ _ h => h) (Or.inl ⟨by rfl, ?_⟩) ?_ ?_
                    rotate_left
                    ·intro w'
                     go_simp
                     with_reducible rfl
                    rotate_left
                    ·simp only [Act.put, List.setIfInBounds_toArray, List.set_cons_zero, List.set_cons_succ, i64_w, i32_w]
                     rfl
                    refine pure_ (i := 11) (N := some 15) (v := ?_) (a' := ?_) #[tt,tt,tt,tt,tt,tt,tt,tt,tt,tt,tt,tt] rfl rfl (any_of HT_.out (by kernel_rfl)) (fun _ _ _ h => h) (Or.inl ⟨by rfl, ?_⟩) ?_ ?_
                    rotate_left
                    ·intro w'
                     go_simp
                     with_reducible rfl
                    rotate_left
                    ·simp only [Act.put, List.setIfInBounds_toArray, List.set_cons_zero, List.set_cons_succ, i64_w, i32_w]
                     rfl
                    refine done_ (done_of HT_.out (by kernel_rfl)) ?_
                    have hcz72_0 : w71.cell? ⟨gb163, 0, none⟩ = some (.int .i64 ((rd_T53 l0 x26_2).f0)) := (blk_cell BK163.out 0).trans rfl
                    have hcz72_1 : w71.cell? ⟨gb163, 1, none⟩ = some (.int .i64 ((rd_T53 l0 x26_2).f1)) := (blk_cell BK163.out 1).trans rfl
                    have hcz72_2 : w71.cell? ⟨gb163, 2, none⟩ = some (.int .i64 ((rd_T53 l0 x26_2).f2)) := (blk_cell BK163.out 2).trans rfl
                    have hcz72_3 : w71.cell? ⟨gb163, 3, none⟩ = some (.int .i64 ((rd_T53 l0 x26_2).f3)) := (blk_cell BK163.out 3).trans rfl
                    have hcz72_4 : w71.cell? ⟨gb163, 4, none⟩ = some (.int .i64 ((rd_T53 l0 x26_2).f4)) := (blk_cell BK163.out 4).trans rfl
                    have hfz72_0 := blk_frozen BK163.out 0
                    have hfz72_1 := blk_frozen BK163.out 1
                    have hfz72_2 := blk_frozen BK163.out 2
                    have hfz72_3 := blk_frozen BK163.out 3
                    have hfz72_4 := blk_frozen BK163.out 4
                    have p168 : 0 ≤ (((rd_T53 l0 x26_2).f1) : Int) := of_decide_eq_true (by first | (with_reducible assumption) | assumption)
                    have q168 : ((rd_T53 l0 x26_2).f1) < (x8_1.length : Int) := of_decide_eq_true (by first | (with_reducible assumption) | assumption)
                    obtain ⟨ad168, e168, hx168_0⟩ := Kd.at_int (Kd.R_reads' HO_8.out).2.2 ((rd_T53 l0 x26_2).f1) p168 q168
                    obtain rfl : (⟨go8, 0, none⟩ : Addr) = ad168 := (by injection e168)
                    (first | simp only [add_plain] at hx168_0 | simp only [add_at] at hx168_0 | simp only [Addr.add, Nat.zero_add] at hx168_0 | skip)
                    replace p168 := eq_true p168
                    replace q168 := eq_true q168
                    have p169 : 0 ≤ (((rd_T53 l0 x26_2).f1) : Int) := of_decide_eq_true (by first | (with_reducible assumption) | assumption)
                    have q169 : ((rd_T53 l0 x26_2).f1) < (x8_1.length : Int) := of_decide_eq_true (by first | (with_reducible assumption) | assumption)
                    obtain ⟨ad169, e169, hx169_0⟩ := Kd.at_int (Kd.R_reads' HO_8.out).2.2 ((rd_T53 l0 x26_2).f1) p169 q169
                    obtain rfl : (⟨go8, 0, none⟩ : Addr) = ad169 := (by injection e169)
                    (first | simp only [add_plain] at hx169_0 | simp only [add_at] at hx169_0 | simp only [Addr.add, Nat.zero_add] at hx169_0 | skip)
                    replace p169 := eq_true p169
                    replace q169 := eq_true q169
                    try go_wp2
                    go_roundg k2
                    case measure => have := HK1.out; have := HK2.out; omega
                    case rel => exact ⟨(x10_2), (x11_2), (wrap64 (x26_2 + 1)), (by first | rfl | (simp; done) | (simp [*]; done)), (by first | rfl | (simp; done) | (simp [*]; done)), (by first | rfl | (simp; done) | (simp [*]; done)), H', ⟨by have := HK1.out; have := HK2.out; omega⟩, ⟨by (try simp only [hl8_1]); (with_reducible repeat (first | apply Kd.R_alloc | apply Kd.R_drewN | apply Kd.R_drew)); exact HO_8.out⟩, ⟨by (try simp only [hl8_1]); (with_reducible repeat (first | apply Kd.R_alloc | apply Kd.R_drewN | apply Kd.R_drew)); exact HO_9.out⟩, ⟨by repeat (first | (with_reducible first | exact HB.out | apply below_alloc | apply pw_below_drewN | apply below_drew1 | refine below_set ?_ GE163.out) | exact HB.out | (with_reducible exact Below.refl _ _))⟩⟩
                 ·rw [if_neg c52] at H
                  have c52b0 : decide (t166 < (rd x8_1 ((rd_T53 l0 x26_2).f1))) = false := decide_eq_false c52
                  clear c52
                  have H' := Aside0.mk H
                  clear H
                  have p162 : 0 ≤ (x26_2 : Int) := of_decide_eq_true (by first | (with_reducible assumption) | assumption)
                  have q162 : x26_2 < (l0.length : Int) := of_decide_eq_true (by first | (with_reducible assumption) | assumption)
                  obtain ⟨ad162, e162, hx162_0, hx162_1, hx162_2, hx162_3, hx162_4⟩ := at_T53 HR0.out x26_2 p162 q162
                  cases e162
                  replace hx162_0 := (HB.out.cell (World.block_lt_of_cell? w _ hx162_0)).trans hx162_0
                  replace hx162_1 := (HB.out.cell (World.block_lt_of_cell? w _ hx162_1)).trans hx162_1
                  replace hx162_2 := (HB.out.cell (World.block_lt_of_cell? w _ hx162_2)).trans hx162_2
                  replace hx162_3 := (HB.out.cell (World.block_lt_of_cell? w _ hx162_3)).trans hx162_3
                  replace hx162_4 := (HB.out.cell (World.block_lt_of_cell? w _ hx162_4)).trans hx162_4
                  replace p162 := eq_true p162
                  replace q162 := eq_true q162
                  try go_wp2_with (first | ((with_reducible refine gate_dst (N := 13) rfl ?_); refine box_event ?hg (N := 13) ?hd (cs := #[.int .i64 0, .int .i64 0, .int .i64 0, .int .i64 0, .int .i64 0]) (t := 53) ?hr ?_; (case hd => rfl); (case hg => rfl); (case hr => first | (go_simp; done) | (go_simp; rfl)); intro gb163 hg w73 hbox hb; have n0_ := Aside0.mk (Kd.R_below (by (with_reducible repeat (first | apply Kd.R_alloc | apply Kd.R_drewN | apply Kd.R_drew)); exact HO_8.out) hb); have n1_ := Aside0.mk (Kd.R_below (by (with_reducible repeat (first | apply Kd.R_alloc | apply Kd.R_drewN | apply Kd.R_drew)); exact HO_9.out) hb); have n2_ := Aside0.mk (below_step (by repeat (first | (with_reducible first | exact HB.out | apply below_alloc | apply pw_below_drewN | apply below_drew1) | exact HB.out | (with_reducible exact Below.refl _ _))) hb); have n3_ := Aside0.mk (hbox); have n4_ := Aside0.mk ((by rw [hg]; exact (below_size (by repeat (first | (with_reducible first | exact HB.out | apply below_alloc | apply pw_below_drewN | apply below_drew1) | exact HB.out | (with_reducible exact Below.refl _ _)))) : w.heap.size ≤ gb163)); have n5_ := Aside0.mk ((by rw [hg]; exact (below_size (by repeat (first | (with_reducible first | exact HB.out | apply below_alloc | apply pw_below_drewN | apply below_drew1) | exact HB.out | (with_reducible exact Below.refl _ _)))) : w.heap.size ≤ gb163)); clear HO_8; clear HO_9; clear HB; have HO_8 := n0_; have HO_9 := n1_; have HB := n2_; have BK163 := n3_; have GW163 := n4_; have GE163 := n5_; clear n0_ n1_ n2_ n3_ n4_ n5_; clear hb hbox hg; have hcz74_0 : w73.cell? ⟨gb163, 0, none⟩ = some (.int .i64 0) := (blk_cell BK163.out 0).trans rfl; have hcz74_1 : w73.cell? ⟨gb163, 1, none⟩ = some (.int .i64 0) := (blk_cell BK163.out 1).trans rfl; have hcz74_2 : w73.cell? ⟨gb163, 2, none⟩ = some (.int .i64 0) := (blk_cell BK163.out 2).trans rfl; have hcz74_3 : w73.cell? ⟨gb163, 3, none⟩ = some (.int .i64 0) := (blk_cell BK163.out 3).trans rfl; have hcz74_4 : w73.cell? ⟨gb163, 4, none⟩ = some (.int .i64 0) := (blk_cell BK163.out 4).trans rfl; have hfz74_0 := blk_frozen BK163.out 0; have hfz74_1 := blk_frozen BK163.out 1; have hfz74_2 := blk_frozen BK163.out 2; have hfz74_3 := blk_frozen BK163.out 3; have hfz74_4 := blk_frozen BK163.out 4; have p164 : 0 ≤ (((rd_T53 l0 x26_2).f0) : Int) := of_decide_eq_true (by first | (with_reducible assumption) | assumption); have q164 : ((rd_T53 l0 x26_2).f0) < (x8_1.length : Int) := of_decide_eq_true (by first | (with_reducible assumption) | assumption); obtain ⟨ad164, e164, hx164_0⟩ := Kd.at_int (Kd.R_reads' HO_8.out).2.2 ((rd_T53 l0 x26_2).f0) p164 q164; obtain rfl : (⟨go8, 0, none⟩ : Addr) = ad164 := (by injection e164); (first | simp only [add_plain] at hx164_0 | simp only [add_at] at hx164_0 | simp only [Addr.add, Nat.zero_add] at hx164_0 | skip); have hn164_0 : (⟨go8, 0, none⟩ : Addr).block ≠ gb163 := Kd.own_blk (Kd.R_ne HO_8.out BK163.out (by decide)); have hn164_1 : (⟨go8, 0, none⟩ : Addr).block ≠ gb163 := Kd.own_blk (Kd.R_ne HO_8.out BK163.out (by decide)); have hn164_2 : (⟨go8, 0, none⟩ : Addr).block ≠ gb163 := Kd.own_blk (Kd.R_ne HO_8.out BK163.out (by decide)); have hn164_3 : (⟨go8, 0, none⟩ : Addr).block ≠ gb163 := Kd.own_blk (Kd.R_ne HO_8.out BK163.out (by decide)); have hn164_4 : (⟨go8, 0, none⟩ : Addr).block ≠ gb163 := Kd.own_blk (Kd.R_ne HO_8.out BK163.out (by decide)); replace hx164_0 := (cell_far (p := ⟨gb163, 0, none⟩) (by first | (rw [add_block]; exact hn164_0) | (show (Addr.add _ _).block ≠ _; rw [add_block]; exact hn164_0) | exact hn164_0) (.int .i64 ((rd_T53 l0 x26_2).f0))).trans hx164_0; replace hx164_0 := (cell_far (p := ⟨gb163, 1, none⟩) (by first | (rw [add_block]; exact hn164_1) | (show (Addr.add _ _).block ≠ _; rw [add_block]; exact hn164_1) | exact hn164_1) (.int .i64 ((rd_T53 l0 x26_2).f1))).trans hx164_0; replace hx164_0 := (cell_far (p := ⟨gb163, 2, none⟩) (by first | (rw [add_block]; exact hn164_2) | (show (Addr.add _ _).block ≠ _; rw [add_block]; exact hn164_2) | exact hn164_2) (.int .i64 ((rd_T53 l0 x26_2).f2))).trans hx164_0; replace hx164_0 := (cell_far (p := ⟨gb163, 3, none⟩) (by first | (rw [add_block]; exact hn164_3) | (show (Addr.add _ _).block ≠ _; rw [add_block]; exact hn164_3) | exact hn164_3) (.int .i64 ((rd_T53 l0 x26_2).f3))).trans hx164_0; replace hx164_0 := (cell_far (p := ⟨gb163, 4, none⟩) (by first | (rw [add_block]; exact hn164_4) | (show (Addr.add _ _).block ≠ _; rw [add_block]; exact hn164_4) | exact hn164_4) (.int .i64 ((rd_T53 l0 x26_2).f4))).trans hx164_0; clear hn164_0; clear hn164_1; clear hn164_2; clear hn164_3; clear hn164_4; replace p164 := eq_true p164; replace q164 := eq_true q164))
                  have n0_ : Aside0 (Kd.R (Kd.int .i64) 3 (((((w73.setCell ⟨gb163, 0, none⟩ (.int .i64 ((rd_T53 l0 x26_2).f0))).setCell ⟨gb163, 1, none⟩ (.int .i64 ((rd_T53 l0 x26_2).f1))).setCell ⟨gb163, 2, none⟩ (.int .i64 ((rd_T53 l0 x26_2).f2))).setCell ⟨gb163, 3, none⟩ (.int .i64 ((rd_T53 l0 x26_2).f3))).setCell ⟨gb163, 4, none⟩ (.int .i64 ((rd_T53 l0 x26_2).f4))) w.heap.size (fun k_ => some k_ ≠ (v155 : Value).ownBlock) (.slice (some ⟨go8, 0, none⟩) x8_1.length co8) x8_1) := ⟨by (with_reducible repeat (first | apply Kd.R_alloc | apply Kd.R_drewN | apply Kd.R_drew)); exact Kd.R_mono (Kd.R_far (p := ⟨gb163, 4, none⟩) (Kd.R_far (p := ⟨gb163, 3, none⟩) (Kd.R_far (p := ⟨gb163, 2, none⟩) (Kd.R_far (p := ⟨gb163, 1, none⟩) (Kd.R_far (p := ⟨gb163, 0, none⟩) (Kd.R_types HO_8.out BK163.out (by decide)) (fun _ hk => hk.2) (.int .i64 ((rd_T53 l0 x26_2).f0))) (fun _ hk => hk.2) (.int .i64 ((rd_T53 l0 x26_2).f1))) (fun _ hk => hk.2) (.int .i64 ((rd_T53 l0 x26_2).f2))) (fun _ hk => hk.2) (.int .i64 ((rd_T53 l0 x26_2).f3))) (fun _ hk => hk.2) (.int .i64 ((rd_T53 l0 x26_2).f4))) (fun _ hk => hk.1)⟩
                  have n1_ : Aside0 (Kd.R (Kd.int .i64) 3 (((((w73.setCell ⟨gb163, 0, none⟩ (.int .i64 ((rd_T53 l0 x26_2).f0))).setCell ⟨gb163, 1, none⟩ (.int .i64 ((rd_T53 l0 x26_2).f1))).setCell ⟨gb163, 2, none⟩ (.int .i64 ((rd_T53 l0 x26_2).f2))).setCell ⟨gb163, 3, none⟩ (.int .i64 ((rd_T53 l0 x26_2).f3))).setCell ⟨gb163, 4, none⟩ (.int .i64 ((rd_T53 l0 x26_2).f4))) w.heap.size (fun k_ => some k_ ≠ (.slice (some ⟨go8, 0, none⟩) x8_1.length co8 : Value).ownBlock) v155 x9_1) := ⟨by (with_reducible repeat (first | apply Kd.R_alloc | apply Kd.R_drewN | apply Kd.R_drew)); exact Kd.R_mono (Kd.R_far (p := ⟨gb163, 4, none⟩) (Kd.R_far (p := ⟨gb163, 3, none⟩) (Kd.R_far (p := ⟨gb163, 2, none⟩) (Kd.R_far (p := ⟨gb163, 1, none⟩) (Kd.R_far (p := ⟨gb163, 0, none⟩) (Kd.R_types HO_9.out BK163.out (by decide)) (fun _ hk => hk.2) (.int .i64 ((rd_T53 l0 x26_2).f0))) (fun _ hk => hk.2) (.int .i64 ((rd_T53 l0 x26_2).f1))) (fun _ hk => hk.2) (.int .i64 ((rd_T53 l0 x26_2).f2))) (fun _ hk => hk.2) (.int .i64 ((rd_T53 l0 x26_2).f3))) (fun _ hk => hk.2) (.int .i64 ((rd_T53 l0 x26_2).f4))) (fun _ hk => hk.1)⟩
                  have n2_ : Aside0 ((((((w73.setCell ⟨gb163, 0, none⟩ (.int .i64 ((rd_T53 l0 x26_2).f0))).setCell ⟨gb163, 1, none⟩ (.int .i64 ((rd_T53 l0 x26_2).f1))).setCell ⟨gb163, 2, none⟩ (.int .i64 ((rd_T53 l0 x26_2).f2))).setCell ⟨gb163, 3, none⟩ (.int .i64 ((rd_T53 l0 x26_2).f3))).setCell ⟨gb163, 4, none⟩ (.int .i64 ((rd_T53 l0 x26_2).f4))).heap[gb163]? = some (.cells #[.int .i64 ((rd_T53 l0 x26_2).f0), .int .i64 ((rd_T53 l0 x26_2).f1), .int .i64 ((rd_T53 l0 x26_2).f2), .int .i64 ((rd_T53 l0 x26_2).f3), .int .i64 ((rd_T53 l0 x26_2).f4)] 53 (0, 0))) := ⟨by (with_reducible repeat (first | refine blk_drewN ?_ _ | refine blk_drew ?_ | refine blk_alloc ?_ _)); refine blk_put (cs := #[.int .i64 ((rd_T53 l0 x26_2).f0), .int .i64 ((rd_T53 l0 x26_2).f1), .int .i64 ((rd_T53 l0 x26_2).f2), .int .i64 ((rd_T53 l0 x26_2).f3), .int .i64 0]) ?_ 4 _ rfl; (with_reducible repeat (first | refine blk_drewN ?_ _ | refine blk_drew ?_ | refine blk_alloc ?_ _)); refine blk_put (cs := #[.int .i64 ((rd_T53 l0 x26_2).f0), .int .i64 ((rd_T53 l0 x26_2).f1), .int .i64 ((rd_T53 l0 x26_2).f2), .int .i64 0, .int .i64 0]) ?_ 3 _ rfl; (with_reducible repeat (first | refine blk_drewN ?_ _ | refine blk_drew ?_ | refine blk_alloc ?_ _)); refine blk_put (cs := #[.int .i64 ((rd_T53 l0 x26_2).f0), .int .i64 ((rd_T53 l0 x26_2).f1), .int .i64 0, .int .i64 0, .int .i64 0]) ?_ 2 _ rfl; (with_reducible repeat (first | refine blk_drewN ?_ _ | refine blk_drew ?_ | refine blk_alloc ?_ _)); refine blk_put (cs := #[.int .i64 ((rd_T53 l0 x26_2).f0), .int .i64 0, .int .i64 0, .int .i64 0, .int .i64 0]) ?_ 1 _ rfl; (with_reducible repeat (first | refine blk_drewN ?_ _ | refine blk_drew ?_ | refine blk_alloc ?_ _)); refine blk_put (cs := #[.int .i64 0, .int .i64 0, .int .i64 0, .int .i64 0, .int .i64 0]) ?_ 0 _ rfl; (with_reducible repeat (first | refine blk_drewN ?_ _ | refine blk_drew ?_ | refine blk_alloc ?_ _)); exact BK163.out⟩
                  have n3_ : Aside0 (Below w.heap.size w (((((w73.setCell ⟨gb163, 0, none⟩ (.int .i64 ((rd_T53 l0 x26_2).f0))).setCell ⟨gb163, 1, none⟩ (.int .i64 ((rd_T53 l0 x26_2).f1))).setCell ⟨gb163, 2, none⟩ (.int .i64 ((rd_T53 l0 x26_2).f2))).setCell ⟨gb163, 3, none⟩ (.int .i64 ((rd_T53 l0 x26_2).f3))).setCell ⟨gb163, 4, none⟩ (.int .i64 ((rd_T53 l0 x26_2).f4)))) := ⟨by repeat (first | (with_reducible first | exact HB.out | apply below_alloc | apply pw_below_drewN | apply below_drew1 | refine below_set ?_ GE163.out) | exact HB.out | (with_reducible exact Below.refl _ _))⟩
                  (try clear HO_8)
                  (try clear HO_9)
                  (try clear BK163)
                  (try clear HB)
                  generalize (((((w73.setCell ⟨gb163, 0, none⟩ (.int .i64 ((rd_T53 l0 x26_2).f0))).setCell ⟨gb163, 1, none⟩ (.int .i64 ((rd_T53 l0 x26_2).f1))).setCell ⟨gb163, 2, none⟩ (.int .i64 ((rd_T53 l0 x26_2).f2))).setCell ⟨gb163, 3, none⟩ (.int .i64 ((rd_T53 l0 x26_2).f3))).setCell ⟨gb163, 4, none⟩ (.int .i64 ((rd_T53 l0 x26_2).f4))) = w75 at n0_ n1_ n2_ n3_ ⊢
                  have HO_8 := n0_
                  have HO_9 := n1_
                  have BK163 := n2_
                  have HB := n3_
                  clear n0_ n1_ n2_ n3_
                  have n0_ := Aside0.mk (Kd.R_drew HO_8.out)
                  have n1_ := Aside0.mk (Kd.R_drew HO_9.out)
                  have n2_ := Aside0.mk (blk_drew BK163.out)
                  have n3_ := Aside0.mk (below_drew1 HB.out)
                  clear HO_8
                  clear HO_9
                  clear BK163
                  clear HB
                  have HO_8 := n0_
                  have HO_9 := n1_
                  have BK163 := n2_
                  have HB := n3_
                  clear n0_ n1_ n2_ n3_
                  have p165 : 0 ≤ (((rd_T53 l0 x26_2).f0) : Int) := of_decide_eq_true (by first | (with_reducible assumption) | assumption)
                  have q165 : ((rd_T53 l0 x26_2).f0) < (x8_1.length : Int) := of_decide_eq_true (by first | (with_reducible assumption) | assumption)
                  obtain ⟨ad165, e165, hx165_0⟩ := Kd.at_int (Kd.R_reads' HO_8.out).2.2 ((rd_T53 l0 x26_2).f0) p165 q165
                  obtain rfl : (⟨go8, 0, none⟩ : Addr) = ad165 := (by injection e165)
                  (first | simp only [add_plain] at hx165_0 | simp only [add_at] at hx165_0 | simp only [Addr.add, Nat.zero_add] at hx165_0 | skip)
                  replace p165 := eq_true p165
                  replace q165 := eq_true q165
                  refine start_ (n := 12) (S := fun w' => w'.cell? ⟨gb163, 0, none⟩ = some (.int .i64 ((rd_T53 l0 x26_2).f0)) ∧ w'.cell? ⟨gb163, 1, none⟩ = some (.int .i64 ((rd_T53 l0 x26_2).f1)) ∧ w'.cell? ⟨gb163, 2, none⟩ = some (.int .i64 ((rd_T53 l0 x26_2).f2)) ∧ w'.cell? ⟨gb163, 3, none⟩ = some (.int .i64 ((rd_T53 l0 x26_2).f3)) ∧ w'.cell? ⟨gb163, 4, none⟩ = some (.int .i64 ((rd_T53 l0 x26_2).f4)) ∧ w'.cell? ⟨go8, (((rd_T53 l0 x26_2).f0)).toNat, none⟩ = some (.int .i64 (rd x8_1 ((rd_T53 l0 x26_2).f0)))) (ds := []) #[ff,ff,ff,ff,ff,ff,ff,ff,ff,ff,ff,ff] (by kernel_rfl) rfl rfl ⟨(blk_cell BK163.out 0).trans rfl, (blk_cell BK163.out 1).trans rfl, (blk_cell BK163.out 2).trans rfl, (blk_cell BK163.out 3).trans rfl, (blk_cell BK163.out 4).trans rfl, hx165_0⟩ (fun hHeld => ?_); refine with_tabW impl_reach.tab8 impl_reach.bits8 (fun HT_ HW_ => ?_)
                  generalize w75.drew = w76 at HO_8 HO_9 BK163 HB hx165_0 hHeld ⊢
                  refine pure_ (i := 1) (N := some 39) (v := ?_) (a' := ?_) #[ff,tt,ff,ff,ff,ff,ff,ff,ff,ff,ff,ff] rfl rfl (any_of HT_.out (by kernel_rfl)) (fun _ _ _ h => h) (Or.inl ⟨by rfl, ?_⟩) ?_ ?_
                  rotate_left
                  ·intro w'
                   go_simp
                   with_reducible rfl
                  rotate_left
                  ·simp only [Act.put, List.setIfInBounds_toArray, List.set_cons_zero, List.set_cons_succ, i64_w, i32_w]
                   rfl
                  refine pure_ (i := 2) (N := some 40) (v := ?_) (a' := ?_) #[ff,tt,tt,ff,ff,ff,ff,ff,ff,ff,ff,ff] rfl rfl (any_of HT_.out (by kernel_rfl)) (fun _ _ _ h => h) (Or.inl ⟨by rfl, ?_⟩) ?_ ?_
                  rotate_left
                  ·intro w'
                   go_simp
                   with_reducible rfl
                  rotate_left
                  ·simp only [Act.put, List.setIfInBounds_toArray, List.set_cons_zero, List.set_cons_succ, i64_w, i32_w]
                   rfl
                  refine take_ (i := 0) (N := some 38) (v := ?_) (a' := ?_) #[tt,tt,tt,ff,ff,ff,ff,ff,ff,ff,ff,ff] rfl rfl (take_ofW HT_.out HW_.out (by kernel_rfl)) (fun _ _ _ h => h) (Or.inl ⟨by rfl, ?_⟩) hHeld ?_ ?_
                  rotate_left
                  ·rintro w' ⟨s0, s1, s2, s3, s4, s5⟩
                   go_simp
                   with_reducible rfl
                  rotate_left
                  ·simp only [Act.put, List.setIfInBounds_toArray, List.set_cons_zero, List.set_cons_succ, i64_w, i32_w]
                   rfl
                  refine take_ (i := 3) (N := some 41) (v := ?_) (a' := ?_) #[tt,tt,tt,tt,ff,ff,ff,ff,ff,ff,ff,ff] rfl rfl (take_ofW HT_.out HW_.out (by kernel_rfl)) (fun _ _ _ h => h) (Or.inl ⟨by rfl, ?_⟩) hHeld ?_ ?_
                  rotate_left
                  ·rintro w' ⟨s0, s1, s2, s3, s4, s5⟩
                   go_simp
                   with_reducible rfl
                  rotate_left
                  ·simp only [Act.put, List.setIfInBounds_toArray, List.set_cons_zero, List.set_cons_succ, i64_w, i32_w]
                   rfl
                  refine pure_ (i := 4) (N := some 42) (v := ?_) (a' := ?_) #[tt,tt,tt,tt,tt,ff,ff,ff,ff,ff,ff,ff] rfl rfl (any_of HT_.out (by kernel_rfl)) (fun _ _ _ h => h) (Or.inl ⟨by rfl, ?_⟩) ?_ ?_
                  rotate_left
                  ·intro w'
                   go_simp
                   with_reducible rfl
                  rotate_left
                  ·simp only [Act.put, List.setIfInBounds_toArray, List.set_cons_zero, List.set_cons_succ, i64_w, i32_w]
                   rfl
                  refine take_ (i := 5) (N := some 43) (v := ?_) (a' := ?_) #[tt,tt,tt,tt,tt,tt,ff,ff,ff,ff,ff,ff] rfl rfl (take_ofW HT_.out HW_.out (by kernel_rfl)) (fun _ _ _ h => h) (Or.inl ⟨by rfl, ?_⟩) hHeld ?_ ?_
                  rotate_left
                  ·rintro w' ⟨s0, s1, s2, s3, s4, s5⟩
                   go_simp
                   with_reducible rfl
                  rotate_left
                  ·simp only [Act.put, List.setIfInBounds_toArray, List.set_cons_zero, List.set_cons_succ, i64_w, i32_w]
                   rfl
                  refine one_ (i := 6) (N := some 44) #[tt,tt,tt,tt,tt,tt,tt,ff,ff,ff,ff,ff] rfl rfl (one_of HT_.out (by kernel_rfl)) (by decide) (fun K hK => ?_)
                  refine goes_ Try.func64 (by kernel_rfl) rfl #[.agg #[.int .i64 ((rd_T53 l0 x26_2).f0), .int .i64 ((rd_T53 l0 x26_2).f1), .int .i64 ((rd_T53 l0 x26_2).f2), .int .i64 ((rd_T53 l0 x26_2).f3), .int .i64 ((rd_T53 l0 x26_2).f4)], .int .i64 (rd x8_1 ((rd_T53 l0 x26_2).f0))] (by rfl) rfl rfl (by (try simp only [List.map_toArray, List.map_cons, List.map_nil]); first | done | rfl | (simp only [List.length_drop, List.length_take]; rfl)) ?_
                  with_reducible refine (impl_Contact_by.calls ((rd_T53 l0 x26_2).f0) ((rd_T53 l0 x26_2).f1) ((rd_T53 l0 x26_2).f2) ((rd_T53 l0 x26_2).f3) ((rd_T53 l0 x26_2).f4) (rd x8_1 ((rd_T53 l0 x26_2).f0)) t166 true _ A27.out).mono ?_
                  rintro e w77 ⟨rfl, hb⟩
                  have HS5_ := (hb.cell (World.block_lt_of_cell? _ _ (hHeld.2.2.2.2.2))).trans (hHeld.2.2.2.2.2)
                  refine ⟨_, rfl, ?_⟩
                  have n0_ := Aside0.mk (Kd.R_below (by (with_reducible repeat (first | apply Kd.R_alloc | apply Kd.R_drewN | apply Kd.R_drew)); exact HO_8.out) hb)
                  have n1_ := Aside0.mk (Kd.R_below (by (with_reducible repeat (first | apply Kd.R_alloc | apply Kd.R_drewN | apply Kd.R_drew)); exact HO_9.out) hb)
                  have n2_ := Aside0.mk (blk_below (g := gb163) (o := .cells #[.int .i64 ((rd_T53 l0 x26_2).f0), .int .i64 ((rd_T53 l0 x26_2).f1), .int .i64 ((rd_T53 l0 x26_2).f2), .int .i64 ((rd_T53 l0 x26_2).f3), .int .i64 ((rd_T53 l0 x26_2).f4)] 53 (0, 0)) (by (with_reducible repeat (first | refine blk_drewN ?_ _ | refine blk_drew ?_ | refine blk_alloc ?_ _)); exact BK163.out) hb)
                  have n3_ := Aside0.mk (below_step (by repeat (first | (with_reducible first | exact HB.out | apply below_alloc | apply pw_below_drewN | apply below_drew1 | refine below_set ?_ GE163.out) | exact HB.out | (with_reducible exact Below.refl _ _))) hb)
                  clear HO_8
                  clear HO_9
                  clear BK163
                  clear HB
                  have HO_8 := n0_
                  have HO_9 := n1_
                  have BK163 := n2_
                  have HB := n3_
                  clear n0_ n1_ n2_ n3_
                  (try clear hb)
                  (try clear hb2)
                  (try clear hk)
                  (try clear hi)
                  refine hK.out _ _ ⟨(blk_cell BK163.out 0).trans rfl, (blk_cell BK163.out 1).trans rfl, (blk_cell BK163.out 2).trans rfl, (blk_cell BK163.out 3).trans rfl, (blk_cell BK163.out 4).trans rfl, HS5_⟩ (fun hHeld => ?_)
                  clear hK K
                  refine norm_ (a' := ?_) ?_ ?_
                  rotate_left
                  ·show Act.put _ (some 44) _ = _
                   simp only [Act.put, List.setIfInBounds_toArray, List.set_cons_zero, List.set_cons_succ, i64_w, i32_w]
                   rfl
                  refine pure_ (i := 7) (N := some 37) (v := ?_) (a' := ?_) #[tt,tt,tt,tt,tt,tt,tt,tt,ff,ff,ff,ff] rfl rfl (any_of HT_.out (by kernel_rfl)) (fun _ _ _ h => h) (Or.inl ⟨by rfl, ?_⟩) ?_ ?_
                  rotate_left
                  ·intro w'
                   go_simp
                   with_reducible rfl
                  rotate_left
                  ·simp only [Act.put, List.setIfInBounds_toArray, List.set_cons_zero, List.set_cons_succ, i64_w, i32_w]
                   rfl
                  refine pure_ (i := 8) (N := some 45) (v := ?_) (a' := ?_) #[tt,tt,tt,tt,tt,tt,tt,tt,tt,ff,ff,ff] rfl rfl (any_of HT_.out (by kernel_rfl)) (fun _ _ _ h => h) (Or.inl ⟨by rfl, ?_⟩) ?_ ?_
                  rotate_left
                  ·intro w'
                   go_simp
                   with_reducible rfl
                  rotate_left
                  ·simp only [Act.put, List.setIfInBounds_toArray, List.set_cons_zero, List.set_cons_succ, i64_w, i32_w]
                   rfl
                  refine pure_ (i := 9) (N := some 46) (v := ?_) (a' := ?_) #[tt,tt,tt,tt,tt,tt,tt,tt,tt,tt,ff,ff] rfl rfl (any_of HT_.out (by kernel_rfl)) (fun _ _ _ h => h) (Or.inl ⟨by rfl, ?_⟩) ?_ ?_
                  rotate_left
                  ·intro w'
                   go_simp
                   with_reducible rfl
                  rotate_left
                  ·simp only [Act.put, List.setIfInBounds_toArray, List.set_cons_zero, List.set_cons_succ, i64_w, i32_w]
                   rfl
                  refine pure_ (i := 10) (N := some 14) (v := ?_) (a' := ?_) #[tt,tt,tt,tt,tt,tt,tt,tt,tt,tt,tt,ff] rfl rfl (any_of HT_.out (by kernel_rfl)) (fun _ _ _ h => h) (Or.inl ⟨by rfl, ?_⟩) ?_ ?_
                  rotate_left
                  ·intro w'
                   go_simp
                   with_reducible rfl
                  rotate_left
                  ·simp only [Act.put, List.setIfInBounds_toArray, List.set_cons_zero, List.set_cons_succ, i64_w, i32_w]
                   rfl
                  refine pure_ (i := 11) (N := some 15) (v := ?_) (a' := ?_) #[tt,tt,tt,tt,tt,tt,tt,tt,tt,tt,tt,tt] rfl rfl (any_of HT_.out (by kernel_rfl)) (fun _ _ _ h => h) (Or.inl ⟨by rfl, ?_⟩) ?_ ?_
                  rotate_left
                  ·intro w'
                   go_simp
                   with_reducible rfl
                  rotate_left
                  ·simp only [Act.put, List.setIfInBounds_toArray, List.set_cons_zero, List.set_cons_succ, i64_w, i32_w]
                   rfl
                  refine done_ (done_of HT_.out (by kernel_rfl)) ?_
                  have hcz78_0 : w77.cell? ⟨gb163, 0, none⟩ = some (.int .i64 ((rd_T53 l0 x26_2).f0)) := (blk_cell BK163.out 0).trans rfl
                  have hcz78_1 : w77.cell? ⟨gb163, 1, none⟩ = some (.int .i64 ((rd_T53 l0 x26_2).f1)) := (blk_cell BK163.out 1).trans rfl
                  have hcz78_2 : w77.cell? ⟨gb163, 2, none⟩ = some (.int .i64 ((rd_T53 l0 x26_2).f2)) := (blk_cell BK163.out 2).trans rfl
                  have hcz78_3 : w77.cell? ⟨gb163, 3, none⟩ = some (.int .i64 ((rd_T53 l0 x26_2).f3)) := (blk_cell BK163.out 3).trans rfl
                  have hcz78_4 : w77.cell? ⟨gb163, 4, none⟩ = some (.int .i64 ((rd_T53 l0 x26_2).f4)) := (blk_cell BK163.out 4).trans rfl
                  have hfz78_0 := blk_frozen BK163.out 0
                  have hfz78_1 := blk_frozen BK163.out 1
                  have hfz78_2 := blk_frozen BK163.out 2
                  have hfz78_3 := blk_frozen BK163.out 3
                  have hfz78_4 := blk_frozen BK163.out 4
                  have p168 : 0 ≤ (((rd_T53 l0 x26_2).f1) : Int) := of_decide_eq_true (by first | (with_reducible assumption) | assumption)
                  have q168 : ((rd_T53 l0 x26_2).f1) < (x8_1.length : Int) := of_decide_eq_true (by first | (with_reducible assumption) | assumption)
                  obtain ⟨ad168, e168, hx168_0⟩ := Kd.at_int (Kd.R_reads' HO_8.out).2.2 ((rd_T53 l0 x26_2).f1) p168 q168
                  obtain rfl : (⟨go8, 0, none⟩ : Addr) = ad168 := (by injection e168)
                  (first | simp only [add_plain] at hx168_0 | simp only [add_at] at hx168_0 | simp only [Addr.add, Nat.zero_add] at hx168_0 | skip)
                  replace p168 := eq_true p168
                  replace q168 := eq_true q168
                  have p169 : 0 ≤ (((rd_T53 l0 x26_2).f1) : Int) := of_decide_eq_true (by first | (with_reducible assumption) | assumption)
                  have q169 : ((rd_T53 l0 x26_2).f1) < (x8_1.length : Int) := of_decide_eq_true (by first | (with_reducible assumption) | assumption)
                  obtain ⟨ad169, e169, hx169_0⟩ := Kd.at_int (Kd.R_reads' HO_8.out).2.2 ((rd_T53 l0 x26_2).f1) p169 q169
                  obtain rfl : (⟨go8, 0, none⟩ : Addr) = ad169 := (by injection e169)
                  (first | simp only [add_plain] at hx169_0 | simp only [add_at] at hx169_0 | simp only [Addr.add, Nat.zero_add] at hx169_0 | skip)
                  replace p169 := eq_true p169
                  replace q169 := eq_true q169
                  try go_wp2
                  go_roundg k2
                  case measure => have := HK1.out; have := HK2.out; omega
                  case rel => exact ⟨(x10_2), (x11_2), (wrap64 (x26_2 + 1)), (by first | rfl | (simp; done) | (simp [*]; done)), (by first | rfl | (simp; done) | (simp [*]; done)), (by first | rfl | (simp; done) | (simp [*]; done)), H', ⟨by have := HK1.out; have := HK2.out; omega⟩, ⟨by (try simp only [hl8_1]); (with_reducible repeat (first | apply Kd.R_alloc | apply Kd.R_drewN | apply Kd.R_drew)); exact HO_8.out⟩, ⟨by (try simp only [hl8_1]); (with_reducible repeat (first | apply Kd.R_alloc | apply Kd.R_drewN | apply Kd.R_drew)); exact HO_9.out⟩, ⟨by repeat (first | (with_reducible first | exact HB.out | apply below_alloc | apply pw_below_drewN | apply below_drew1 | refine below_set ?_ GE163.out) | exact HB.out | (with_reducible exact Below.refl _ _))⟩⟩
               ·rw [if_neg c30] at H
                exact absurd H (by simp)
              ·rw [if_neg c29] at H
               exact absurd H (by simp)
             ·replace c28 := Bool.eq_false_iff.mpr c28
              subst c28
              have H1 : (impl_reach.l1 k2 l0 x8_1 x9_1 x10_2 x11_2 l0 (l0.length : Int) (wrap64 (x26_2 + 1))) = some (r1, r2) := by rw [if_neg (show ¬ (false = true) by decide)] at H; exact H
              clear H
              have H := H1
              clear H1
              have H' := Aside0.mk H
              clear H
              have p162 : 0 ≤ (x26_2 : Int) := of_decide_eq_true (by first | (with_reducible assumption) | assumption)
              have q162 : x26_2 < (l0.length : Int) := of_decide_eq_true (by first | (with_reducible assumption) | assumption)
              obtain ⟨ad162, e162, hx162_0, hx162_1, hx162_2, hx162_3, hx162_4⟩ := at_T53 HR0.out x26_2 p162 q162
              cases e162
              replace hx162_0 := (HB.out.cell (World.block_lt_of_cell? w _ hx162_0)).trans hx162_0
              replace hx162_1 := (HB.out.cell (World.block_lt_of_cell? w _ hx162_1)).trans hx162_1
              replace hx162_2 := (HB.out.cell (World.block_lt_of_cell? w _ hx162_2)).trans hx162_2
              replace hx162_3 := (HB.out.cell (World.block_lt_of_cell? w _ hx162_3)).trans hx162_3
              replace hx162_4 := (HB.out.cell (World.block_lt_of_cell? w _ hx162_4)).trans hx162_4
              replace p162 := eq_true p162
              replace q162 := eq_true q162
              try go_wp2_with (first | ((with_reducible refine gate_dst (N := 13) rfl ?_); refine box_event ?hg (N := 13) ?hd (cs := #[.int .i64 0, .int .i64 0, .int .i64 0, .int .i64 0, .int .i64 0]) (t := 53) ?hr ?_; (case hd => rfl); (case hg => rfl); (case hr => first | (go_simp; done) | (go_simp; rfl)); intro gb163 hg w79 hbox hb; have n0_ := Aside0.mk (Kd.R_below (by (with_reducible repeat (first | apply Kd.R_alloc | apply Kd.R_drewN | apply Kd.R_drew)); exact HO_8.out) hb); have n1_ := Aside0.mk (Kd.R_below (by (with_reducible repeat (first | apply Kd.R_alloc | apply Kd.R_drewN | apply Kd.R_drew)); exact HO_9.out) hb); have n2_ := Aside0.mk (below_step (by repeat (first | (with_reducible first | exact HB.out | apply below_alloc | apply pw_below_drewN | apply below_drew1) | exact HB.out | (with_reducible exact Below.refl _ _))) hb); have n3_ := Aside0.mk (hbox); have n4_ := Aside0.mk ((by rw [hg]; exact (below_size (by repeat (first | (with_reducible first | exact HB.out | apply below_alloc | apply pw_below_drewN | apply below_drew1) | exact HB.out | (with_reducible exact Below.refl _ _)))) : w.heap.size ≤ gb163)); have n5_ := Aside0.mk ((by rw [hg]; exact (below_size (by repeat (first | (with_reducible first | exact HB.out | apply below_alloc | apply pw_below_drewN | apply below_drew1) | exact HB.out | (with_reducible exact Below.refl _ _)))) : w.heap.size ≤ gb163)); clear HO_8; clear HO_9; clear HB; have HO_8 := n0_; have HO_9 := n1_; have HB := n2_; have BK163 := n3_; have GW163 := n4_; have GE163 := n5_; clear n0_ n1_ n2_ n3_ n4_ n5_; clear hb hbox hg; have hcz80_0 : w79.cell? ⟨gb163, 0, none⟩ = some (.int .i64 0) := (blk_cell BK163.out 0).trans rfl; have hcz80_1 : w79.cell? ⟨gb163, 1, none⟩ = some (.int .i64 0) := (blk_cell BK163.out 1).trans rfl; have hcz80_2 : w79.cell? ⟨gb163, 2, none⟩ = some (.int .i64 0) := (blk_cell BK163.out 2).trans rfl; have hcz80_3 : w79.cell? ⟨gb163, 3, none⟩ = some (.int .i64 0) := (blk_cell BK163.out 3).trans rfl; have hcz80_4 : w79.cell? ⟨gb163, 4, none⟩ = some (.int .i64 0) := (blk_cell BK163.out 4).trans rfl; have hfz80_0 := blk_frozen BK163.out 0; have hfz80_1 := blk_frozen BK163.out 1; have hfz80_2 := blk_frozen BK163.out 2; have hfz80_3 := blk_frozen BK163.out 3; have hfz80_4 := blk_frozen BK163.out 4; have p164 : 0 ≤ (((rd_T53 l0 x26_2).f0) : Int) := of_decide_eq_true (by first | (with_reducible assumption) | assumption); have q164 : ((rd_T53 l0 x26_2).f0) < (x8_1.length : Int) := of_decide_eq_true (by first | (with_reducible assumption) | assumption); obtain ⟨ad164, e164, hx164_0⟩ := Kd.at_int (Kd.R_reads' HO_8.out).2.2 ((rd_T53 l0 x26_2).f0) p164 q164; obtain rfl : (⟨go8, 0, none⟩ : Addr) = ad164 := (by injection e164); (first | simp only [add_plain] at hx164_0 | simp only [add_at] at hx164_0 | simp only [Addr.add, Nat.zero_add] at hx164_0 | skip); have hn164_0 : (⟨go8, 0, none⟩ : Addr).block ≠ gb163 := Kd.own_blk (Kd.R_ne HO_8.out BK163.out (by decide)); have hn164_1 : (⟨go8, 0, none⟩ : Addr).block ≠ gb163 := Kd.own_blk (Kd.R_ne HO_8.out BK163.out (by decide)); have hn164_2 : (⟨go8, 0, none⟩ : Addr).block ≠ gb163 := Kd.own_blk (Kd.R_ne HO_8.out BK163.out (by decide)); have hn164_3 : (⟨go8, 0, none⟩ : Addr).block ≠ gb163 := Kd.own_blk (Kd.R_ne HO_8.out BK163.out (by decide)); have hn164_4 : (⟨go8, 0, none⟩ : Addr).block ≠ gb163 := Kd.own_blk (Kd.R_ne HO_8.out BK163.out (by decide)); replace hx164_0 := (cell_far (p := ⟨gb163, 0, none⟩) (by first | (rw [add_block]; exact hn164_0) | (show (Addr.add _ _).block ≠ _; rw [add_block]; exact hn164_0) | exact hn164_0) (.int .i64 ((rd_T53 l0 x26_2).f0))).trans hx164_0; replace hx164_0 := (cell_far (p := ⟨gb163, 1, none⟩) (by first | (rw [add_block]; exact hn164_1) | (show (Addr.add _ _).block ≠ _; rw [add_block]; exact hn164_1) | exact hn164_1) (.int .i64 ((rd_T53 l0 x26_2).f1))).trans hx164_0; replace hx164_0 := (cell_far (p := ⟨gb163, 2, none⟩) (by first | (rw [add_block]; exact hn164_2) | (show (Addr.add _ _).block ≠ _; rw [add_block]; exact hn164_2) | exact hn164_2) (.int .i64 ((rd_T53 l0 x26_2).f2))).trans hx164_0; replace hx164_0 := (cell_far (p := ⟨gb163, 3, none⟩) (by first | (rw [add_block]; exact hn164_3) | (show (Addr.add _ _).block ≠ _; rw [add_block]; exact hn164_3) | exact hn164_3) (.int .i64 ((rd_T53 l0 x26_2).f3))).trans hx164_0; replace hx164_0 := (cell_far (p := ⟨gb163, 4, none⟩) (by first | (rw [add_block]; exact hn164_4) | (show (Addr.add _ _).block ≠ _; rw [add_block]; exact hn164_4) | exact hn164_4) (.int .i64 ((rd_T53 l0 x26_2).f4))).trans hx164_0; clear hn164_0; clear hn164_1; clear hn164_2; clear hn164_3; clear hn164_4; replace p164 := eq_true p164; replace q164 := eq_true q164))
              have n0_ : Aside0 (Kd.R (Kd.int .i64) 3 (((((w79.setCell ⟨gb163, 0, none⟩ (.int .i64 ((rd_T53 l0 x26_2).f0))).setCell ⟨gb163, 1, none⟩ (.int .i64 ((rd_T53 l0 x26_2).f1))).setCell ⟨gb163, 2, none⟩ (.int .i64 ((rd_T53 l0 x26_2).f2))).setCell ⟨gb163, 3, none⟩ (.int .i64 ((rd_T53 l0 x26_2).f3))).setCell ⟨gb163, 4, none⟩ (.int .i64 ((rd_T53 l0 x26_2).f4))) w.heap.size (fun k_ => some k_ ≠ (v155 : Value).ownBlock) (.slice (some ⟨go8, 0, none⟩) x8_1.length co8) x8_1) := ⟨by (with_reducible repeat (first | apply Kd.R_alloc | apply Kd.R_drewN | apply Kd.R_drew)); exact Kd.R_mono (Kd.R_far (p := ⟨gb163, 4, none⟩) (Kd.R_far (p := ⟨gb163, 3, none⟩) (Kd.R_far (p := ⟨gb163, 2, none⟩) (Kd.R_far (p := ⟨gb163, 1, none⟩) (Kd.R_far (p := ⟨gb163, 0, none⟩) (Kd.R_types HO_8.out BK163.out (by decide)) (fun _ hk => hk.2) (.int .i64 ((rd_T53 l0 x26_2).f0))) (fun _ hk => hk.2) (.int .i64 ((rd_T53 l0 x26_2).f1))) (fun _ hk => hk.2) (.int .i64 ((rd_T53 l0 x26_2).f2))) (fun _ hk => hk.2) (.int .i64 ((rd_T53 l0 x26_2).f3))) (fun _ hk => hk.2) (.int .i64 ((rd_T53 l0 x26_2).f4))) (fun _ hk => hk.1)⟩
              have n1_ : Aside0 (Kd.R (Kd.int .i64) 3 (((((w79.setCell ⟨gb163, 0, none⟩ (.int .i64 ((rd_T53 l0 x26_2).f0))).setCell ⟨gb163, 1, none⟩ (.int .i64 ((rd_T53 l0 x26_2).f1))).setCell ⟨gb163, 2, none⟩ (.int .i64 ((rd_T53 l0 x26_2).f2))).setCell ⟨gb163, 3, none⟩ (.int .i64 ((rd_T53 l0 x26_2).f3))).setCell ⟨gb163, 4, none⟩ (.int .i64 ((rd_T53 l0 x26_2).f4))) w.heap.size (fun k_ => some k_ ≠ (.slice (some ⟨go8, 0, none⟩) x8_1.length co8 : Value).ownBlock) v155 x9_1) := ⟨by (with_reducible repeat (first | apply Kd.R_alloc | apply Kd.R_drewN | apply Kd.R_drew)); exact Kd.R_mono (Kd.R_far (p := ⟨gb163, 4, none⟩) (Kd.R_far (p := ⟨gb163, 3, none⟩) (Kd.R_far (p := ⟨gb163, 2, none⟩) (Kd.R_far (p := ⟨gb163, 1, none⟩) (Kd.R_far (p := ⟨gb163, 0, none⟩) (Kd.R_types HO_9.out BK163.out (by decide)) (fun _ hk => hk.2) (.int .i64 ((rd_T53 l0 x26_2).f0))) (fun _ hk => hk.2) (.int .i64 ((rd_T53 l0 x26_2).f1))) (fun _ hk => hk.2) (.int .i64 ((rd_T53 l0 x26_2).f2))) (fun _ hk => hk.2) (.int .i64 ((rd_T53 l0 x26_2).f3))) (fun _ hk => hk.2) (.int .i64 ((rd_T53 l0 x26_2).f4))) (fun _ hk => hk.1)⟩
              have n2_ : Aside0 ((((((w79.setCell ⟨gb163, 0, none⟩ (.int .i64 ((rd_T53 l0 x26_2).f0))).setCell ⟨gb163, 1, none⟩ (.int .i64 ((rd_T53 l0 x26_2).f1))).setCell ⟨gb163, 2, none⟩ (.int .i64 ((rd_T53 l0 x26_2).f2))).setCell ⟨gb163, 3, none⟩ (.int .i64 ((rd_T53 l0 x26_2).f3))).setCell ⟨gb163, 4, none⟩ (.int .i64 ((rd_T53 l0 x26_2).f4))).heap[gb163]? = some (.cells #[.int .i64 ((rd_T53 l0 x26_2).f0), .int .i64 ((rd_T53 l0 x26_2).f1), .int .i64 ((rd_T53 l0 x26_2).f2), .int .i64 ((rd_T53 l0 x26_2).f3), .int .i64 ((rd_T53 l0 x26_2).f4)] 53 (0, 0))) := ⟨by (with_reducible repeat (first | refine blk_drewN ?_ _ | refine blk_drew ?_ | refine blk_alloc ?_ _)); refine blk_put (cs := #[.int .i64 ((rd_T53 l0 x26_2).f0), .int .i64 ((rd_T53 l0 x26_2).f1), .int .i64 ((rd_T53 l0 x26_2).f2), .int .i64 ((rd_T53 l0 x26_2).f3), .int .i64 0]) ?_ 4 _ rfl; (with_reducible repeat (first | refine blk_drewN ?_ _ | refine blk_drew ?_ | refine blk_alloc ?_ _)); refine blk_put (cs := #[.int .i64 ((rd_T53 l0 x26_2).f0), .int .i64 ((rd_T53 l0 x26_2).f1), .int .i64 ((rd_T53 l0 x26_2).f2), .int .i64 0, .int .i64 0]) ?_ 3 _ rfl; (with_reducible repeat (first | refine blk_drewN ?_ _ | refine blk_drew ?_ | refine blk_alloc ?_ _)); refine blk_put (cs := #[.int .i64 ((rd_T53 l0 x26_2).f0), .int .i64 ((rd_T53 l0 x26_2).f1), .int .i64 0, .int .i64 0, .int .i64 0]) ?_ 2 _ rfl; (with_reducible repeat (first | refine blk_drewN ?_ _ | refine blk_drew ?_ | refine blk_alloc ?_ _)); refine blk_put (cs := #[.int .i64 ((rd_T53 l0 x26_2).f0), .int .i64 0, .int .i64 0, .int .i64 0, .int .i64 0]) ?_ 1 _ rfl; (with_reducible repeat (first | refine blk_drewN ?_ _ | refine blk_drew ?_ | refine blk_alloc ?_ _)); refine blk_put (cs := #[.int .i64 0, .int .i64 0, .int .i64 0, .int .i64 0, .int .i64 0]) ?_ 0 _ rfl; (with_reducible repeat (first | refine blk_drewN ?_ _ | refine blk_drew ?_ | refine blk_alloc ?_ _)); exact BK163.out⟩
              have n3_ : Aside0 (Below w.heap.size w (((((w79.setCell ⟨gb163, 0, none⟩ (.int .i64 ((rd_T53 l0 x26_2).f0))).setCell ⟨gb163, 1, none⟩ (.int .i64 ((rd_T53 l0 x26_2).f1))).setCell ⟨gb163, 2, none⟩ (.int .i64 ((rd_T53 l0 x26_2).f2))).setCell ⟨gb163, 3, none⟩ (.int .i64 ((rd_T53 l0 x26_2).f3))).setCell ⟨gb163, 4, none⟩ (.int .i64 ((rd_T53 l0 x26_2).f4)))) := ⟨by repeat (first | (with_reducible first | exact HB.out | apply below_alloc | apply pw_below_drewN | apply below_drew1 | refine below_set ?_ GE163.out) | exact HB.out | (with_reducible exact Below.refl _ _))⟩
              (try clear HO_8)
              (try clear HO_9)
              (try clear BK163)
              (try clear HB)
              generalize (((((w79.setCell ⟨gb163, 0, none⟩ (.int .i64 ((rd_T53 l0 x26_2).f0))).setCell ⟨gb163, 1, none⟩ (.int .i64 ((rd_T53 l0 x26_2).f1))).setCell ⟨gb163, 2, none⟩ (.int .i64 ((rd_T53 l0 x26_2).f2))).setCell ⟨gb163, 3, none⟩ (.int .i64 ((rd_T53 l0 x26_2).f3))).setCell ⟨gb163, 4, none⟩ (.int .i64 ((rd_T53 l0 x26_2).f4))) = w81 at n0_ n1_ n2_ n3_ ⊢
              have HO_8 := n0_
              have HO_9 := n1_
              have BK163 := n2_
              have HB := n3_
              clear n0_ n1_ n2_ n3_
              have n0_ := Aside0.mk (Kd.R_drew HO_8.out)
              have n1_ := Aside0.mk (Kd.R_drew HO_9.out)
              have n2_ := Aside0.mk (blk_drew BK163.out)
              have n3_ := Aside0.mk (below_drew1 HB.out)
              clear HO_8
              clear HO_9
              clear BK163
              clear HB
              have HO_8 := n0_
              have HO_9 := n1_
              have BK163 := n2_
              have HB := n3_
              clear n0_ n1_ n2_ n3_
              have p165 : 0 ≤ (((rd_T53 l0 x26_2).f0) : Int) := of_decide_eq_true (by first | (with_reducible assumption) | assumption)
              have q165 : ((rd_T53 l0 x26_2).f0) < (x8_1.length : Int) := of_decide_eq_true (by first | (with_reducible assumption) | assumption)
              obtain ⟨ad165, e165, hx165_0⟩ := Kd.at_int (Kd.R_reads' HO_8.out).2.2 ((rd_T53 l0 x26_2).f0) p165 q165
              obtain rfl : (⟨go8, 0, none⟩ : Addr) = ad165 := (by injection e165)
              (first | simp only [add_plain] at hx165_0 | simp only [add_at] at hx165_0 | simp only [Addr.add, Nat.zero_add] at hx165_0 | skip)
              replace p165 := eq_true p165
              replace q165 := eq_true q165
              refine start_ (n := 12) (S := fun w' => w'.cell? ⟨gb163, 0, none⟩ = some (.int .i64 ((rd_T53 l0 x26_2).f0)) ∧ w'.cell? ⟨gb163, 1, none⟩ = some (.int .i64 ((rd_T53 l0 x26_2).f1)) ∧ w'.cell? ⟨gb163, 2, none⟩ = some (.int .i64 ((rd_T53 l0 x26_2).f2)) ∧ w'.cell? ⟨gb163, 3, none⟩ = some (.int .i64 ((rd_T53 l0 x26_2).f3)) ∧ w'.cell? ⟨gb163, 4, none⟩ = some (.int .i64 ((rd_T53 l0 x26_2).f4)) ∧ w'.cell? ⟨go8, (((rd_T53 l0 x26_2).f0)).toNat, none⟩ = some (.int .i64 (rd x8_1 ((rd_T53 l0 x26_2).f0)))) (ds := []) #[ff,ff,ff,ff,ff,ff,ff,ff,ff,ff,ff,ff] (by kernel_rfl) rfl rfl ⟨(blk_cell BK163.out 0).trans rfl, (blk_cell BK163.out 1).trans rfl, (blk_cell BK163.out 2).trans rfl, (blk_cell BK163.out 3).trans rfl, (blk_cell BK163.out 4).trans rfl, hx165_0⟩ (fun hHeld => ?_); refine with_tabW impl_reach.tab8 impl_reach.bits8 (fun HT_ HW_ => ?_)
              generalize w81.drew = w82 at HO_8 HO_9 BK163 HB hx165_0 hHeld ⊢
              refine pure_ (i := 1) (N := some 39) (v := ?_) (a' := ?_) #[ff,tt,ff,ff,ff,ff,ff,ff,ff,ff,ff,ff] rfl rfl (any_of HT_.out (by kernel_rfl)) (fun _ _ _ h => h) (Or.inl ⟨by rfl, ?_⟩) ?_ ?_
              rotate_left
              ·intro w'
               go_simp
               with_reducible rfl
              rotate_left
              ·simp only [Act.put, List.setIfInBounds_toArray, List.set_cons_zero, List.set_cons_succ, i64_w, i32_w]
               rfl
              refine pure_ (i := 2) (N := some 40) (v := ?_) (a' := ?_) #[ff,tt,tt,ff,ff,ff,ff,ff,ff,ff,ff,ff] rfl rfl (any_of HT_.out (by kernel_rfl)) (fun _ _ _ h => h) (Or.inl ⟨by rfl, ?_⟩) ?_ ?_
              rotate_left
              ·intro w'
               go_simp
               with_reducible rfl
              rotate_left
              ·simp only [Act.put, List.setIfInBounds_toArray, List.set_cons_zero, List.set_cons_succ, i64_w, i32_w]
               rfl
              refine take_ (i := 0) (N := some 38) (v := ?_) (a' := ?_) #[tt,tt,tt,ff,ff,ff,ff,ff,ff,ff,ff,ff] rfl rfl (take_ofW HT_.out HW_.out (by kernel_rfl)) (fun _ _ _ h => h) (Or.inl ⟨by rfl, ?_⟩) hHeld ?_ ?_
              rotate_left
              ·rintro w' ⟨s0, s1, s2, s3, s4, s5⟩
               go_simp
               with_reducible rfl
              rotate_left
              ·simp only [Act.put, List.setIfInBounds_toArray, List.set_cons_zero, List.set_cons_succ, i64_w, i32_w]
               rfl
              refine take_ (i := 3) (N := some 41) (v := ?_) (a' := ?_) #[tt,tt,tt,tt,ff,ff,ff,ff,ff,ff,ff,ff] rfl rfl (take_ofW HT_.out HW_.out (by kernel_rfl)) (fun _ _ _ h => h) (Or.inl ⟨by rfl, ?_⟩) hHeld ?_ ?_
              rotate_left
              ·rintro w' ⟨s0, s1, s2, s3, s4, s5⟩
               go_simp
               with_reducible rfl
              rotate_left
              ·simp only [Act.put, List.setIfInBounds_toArray, List.set_cons_zero, List.set_cons_succ, i64_w, i32_w]
               rfl
              refine pure_ (i := 4) (N := some 42) (v := ?_) (a' := ?_) #[tt,tt,tt,tt,tt,ff,ff,ff,ff,ff,ff,ff] rfl rfl (any_of HT_.out (by kernel_rfl)) (fun _ _ _ h => h) (Or.inl ⟨by rfl, ?_⟩) ?_ ?_
              rotate_left
              ·intro w'
               go_simp
               with_reducible rfl
              rotate_left
              ·simp only [Act.put, List.setIfInBounds_toArray, List.set_cons_zero, List.set_cons_succ, i64_w, i32_w]
               rfl
              refine take_ (i := 5) (N := some 43) (v := ?_) (a' := ?_) #[tt,tt,tt,tt,tt,tt,ff,ff,ff,ff,ff,ff] rfl rfl (take_ofW HT_.out HW_.out (by kernel_rfl)) (fun _ _ _ h => h) (Or.inl ⟨by rfl, ?_⟩) hHeld ?_ ?_
              rotate_left
              ·rintro w' ⟨s0, s1, s2, s3, s4, s5⟩
               go_simp
               with_reducible rfl
              rotate_left
              ·simp only [Act.put, List.setIfInBounds_toArray, List.set_cons_zero, List.set_cons_succ, i64_w, i32_w]
               rfl
              refine one_ (i := 6) (N := some 44) #[tt,tt,tt,tt,tt,tt,tt,ff,ff,ff,ff,ff] rfl rfl (one_of HT_.out (by kernel_rfl)) (by decide) (fun K hK => ?_)
              refine goes_ Try.func64 (by kernel_rfl) rfl #[.agg #[.int .i64 ((rd_T53 l0 x26_2).f0), .int .i64 ((rd_T53 l0 x26_2).f1), .int .i64 ((rd_T53 l0 x26_2).f2), .int .i64 ((rd_T53 l0 x26_2).f3), .int .i64 ((rd_T53 l0 x26_2).f4)], .int .i64 (rd x8_1 ((rd_T53 l0 x26_2).f0))] (by rfl) rfl rfl (by (try simp only [List.map_toArray, List.map_cons, List.map_nil]); first | done | rfl | (simp only [List.length_drop, List.length_take]; rfl)) ?_
              with_reducible refine (impl_Contact_by.calls ((rd_T53 l0 x26_2).f0) ((rd_T53 l0 x26_2).f1) ((rd_T53 l0 x26_2).f2) ((rd_T53 l0 x26_2).f3) ((rd_T53 l0 x26_2).f4) (rd x8_1 ((rd_T53 l0 x26_2).f0)) t166 false _ A27.out).mono ?_
              rintro e w83 ⟨rfl, hb⟩
              have HS5_ := (hb.cell (World.block_lt_of_cell? _ _ (hHeld.2.2.2.2.2))).trans (hHeld.2.2.2.2.2)
              refine ⟨_, rfl, ?_⟩
              have n0_ := Aside0.mk (Kd.R_below (by (with_reducible repeat (first | apply Kd.R_alloc | apply Kd.R_drewN | apply Kd.R_drew)); exact HO_8.out) hb)
              have n1_ := Aside0.mk (Kd.R_below (by (with_reducible repeat (first | apply Kd.R_alloc | apply Kd.R_drewN | apply Kd.R_drew)); exact HO_9.out) hb)
              have n2_ := Aside0.mk (blk_below (g := gb163) (o := .cells #[.int .i64 ((rd_T53 l0 x26_2).f0), .int .i64 ((rd_T53 l0 x26_2).f1), .int .i64 ((rd_T53 l0 x26_2).f2), .int .i64 ((rd_T53 l0 x26_2).f3), .int .i64 ((rd_T53 l0 x26_2).f4)] 53 (0, 0)) (by (with_reducible repeat (first | refine blk_drewN ?_ _ | refine blk_drew ?_ | refine blk_alloc ?_ _)); exact BK163.out) hb)
              have n3_ := Aside0.mk (below_step (by repeat (first | (with_reducible first | exact HB.out | apply below_alloc | apply pw_below_drewN | apply below_drew1 | refine below_set ?_ GE163.out) | exact HB.out | (with_reducible exact Below.refl _ _))) hb)
              clear HO_8
              clear HO_9
              clear BK163
              clear HB
              have HO_8 := n0_
              have HO_9 := n1_
              have BK163 := n2_
              have HB := n3_
              clear n0_ n1_ n2_ n3_
              (try clear hb)
              (try clear hb2)
              (try clear hk)
              (try clear hi)
              refine hK.out _ _ ⟨(blk_cell BK163.out 0).trans rfl, (blk_cell BK163.out 1).trans rfl, (blk_cell BK163.out 2).trans rfl, (blk_cell BK163.out 3).trans rfl, (blk_cell BK163.out 4).trans rfl, HS5_⟩ (fun hHeld => ?_)
              clear hK K
              refine norm_ (a' := ?_) ?_ ?_
              rotate_left
              ·show Act.put _ (some 44) _ = _
               simp only [Act.put, List.setIfInBounds_toArray, List.set_cons_zero, List.set_cons_succ, i64_w, i32_w]
               rfl
              refine pure_ (i := 7) (N := some 37) (v := ?_) (a' := ?_) #[tt,tt,tt,tt,tt,tt,tt,tt,ff,ff,ff,ff] rfl rfl (any_of HT_.out (by kernel_rfl)) (fun _ _ _ h => h) (Or.inl ⟨by rfl, ?_⟩) ?_ ?_
              rotate_left
              ·intro w'
               go_simp
               with_reducible rfl
              rotate_left
              ·simp only [Act.put, List.setIfInBounds_toArray, List.set_cons_zero, List.set_cons_succ, i64_w, i32_w]
               rfl
              refine pure_ (i := 8) (N := some 45) (v := ?_) (a' := ?_) #[tt,tt,tt,tt,tt,tt,tt,tt,tt,ff,ff,ff] rfl rfl (any_of HT_.out (by kernel_rfl)) (fun _ _ _ h => h) (Or.inl ⟨by rfl, ?_⟩) ?_ ?_
              rotate_left
              ·intro w'
               go_simp
               with_reducible rfl
              rotate_left
              ·simp only [Act.put, List.setIfInBounds_toArray, List.set_cons_zero, List.set_cons_succ, i64_w, i32_w]
               rfl
              refine pure_ (i := 9) (N := some 46) (v := ?_) (a' := ?_) #[tt,tt,tt,tt,tt,tt,tt,tt,tt,tt,ff,ff] rfl rfl (any_of HT_.out (by kernel_rfl)) (fun _ _ _ h => h) (Or.inl ⟨by rfl, ?_⟩) ?_ ?_
              rotate_left
              ·intro w'
               go_simp
               with_reducible rfl
              rotate_left
              ·simp only [Act.put, List.setIfInBounds_toArray, List.set_cons_zero, List.set_cons_succ, i64_w, i32_w]
               rfl
              refine pure_ (i := 10) (N := some 14) (v := ?_) (a' := ?_) #[tt,tt,tt,tt,tt,tt,tt,tt,tt,tt,tt,ff] rfl rfl (any_of HT_.out (by kernel_rfl)) (fun _ _ _ h => h) (Or.inl ⟨by rfl, ?_⟩) ?_ ?_
              rotate_left
              ·intro w'
               go_simp
               with_reducible rfl
              rotate_left
              ·simp only [Act.put, List.setIfInBounds_toArray, List.set_cons_zero, List.set_cons_succ, i64_w, i32_w]
               rfl
              refine pure_ (i := 11) (N := some 15) (v := ?_) (a' := ?_) #[tt,tt,tt,tt,tt,tt,tt,tt,tt,tt,tt,tt] rfl rfl (any_of HT_.out (by kernel_rfl)) (fun _ _ _ h => h) (Or.inl ⟨by rfl, ?_⟩) ?_ ?_
              rotate_left
              ·intro w'
               go_simp
               with_reducible rfl
              rotate_left
              ·simp only [Act.put, List.setIfInBounds_toArray, List.set_cons_zero, List.set_cons_succ, i64_w, i32_w]
               rfl
              refine done_ (done_of HT_.out (by kernel_rfl)) ?_
              try go_wp2
              go_roundg k2
              case measure => have := HK1.out; have := HK2.out; omega
              case rel => exact ⟨(x10_2), (x11_2), (wrap64 (x26_2 + 1)), (by first | rfl | (simp; done) | (simp [*]; done)), (by first | rfl | (simp; done) | (simp [*]; done)), (by first | rfl | (simp; done) | (simp [*]; done)), H', ⟨by have := HK1.out; have := HK2.out; omega⟩, ⟨by (try simp only [hl8_1]); (with_reducible repeat (first | apply Kd.R_alloc | apply Kd.R_drewN | apply Kd.R_drew)); exact HO_8.out⟩, ⟨by (try simp only [hl8_1]); (with_reducible repeat (first | apply Kd.R_alloc | apply Kd.R_drewN | apply Kd.R_drew)); exact HO_9.out⟩, ⟨by repeat (first | (with_reducible first | exact HB.out | apply below_alloc | apply pw_below_drewN | apply below_drew1 | refine below_set ?_ GE163.out) | exact HB.out | (with_reducible exact Below.refl _ _))⟩⟩
           ·rw [if_neg c23] at H
            exact absurd H (by simp)
          ·rw [if_neg c22] at H
           exact absurd H (by simp)
         ·rw [if_neg c21] at H
          exact absurd H (by simp)
        ·rw [if_neg c20] at H
         exact absurd H (by simp)
       ·rw [if_neg c19] at H
        have c19b0 : decide (x26_2 < (l0.length : Int)) = false := decide_eq_false c19
        clear c19
        by_cases c84 : x10_2 < 0
        ·rw [if_pos c84] at H
         have c84b0 : decide (x10_2 < 0) = true := decide_eq_true c84
         clear c84
         simp only [Option.some.injEq, Prod.mk.injEq] at H
         obtain ⟨rfl, rfl⟩ := H
         go_wp2
         go_ret2
         exact ⟨_, _, by first | rfl | (simp [errW_none, errW_some] <;> rfl) | (simp [*, errW_none, errW_some] <;> rfl), by (with_reducible repeat (first | apply Kd.R_alloc | apply Kd.R_drewN | apply Kd.R_drew)); exact HO_8.out, by (with_reducible repeat (first | apply Kd.R_alloc | apply Kd.R_drewN | apply Kd.R_drew)); exact HO_9.out, by repeat (first | (with_reducible first | exact HB.out | apply below_alloc | apply pw_below_drewN | apply below_drew1) | exact HB.out | (with_reducible exact Below.refl _ _))⟩
        ·rw [if_neg c84] at H
         have c84b0 : decide (x10_2 < 0) = false := decide_eq_false c84
         clear c84
         by_cases c85 : 0 ≤ x10_2
         ·rw [if_pos c85] at H
          have c85b0 : decide (0 ≤ x10_2) = true := decide_eq_true c85
          clear c85
          by_cases c86 : x10_2 < (l0.length : Int)
          ·rw [if_pos c86] at H
           have c86b0 : decide (x10_2 < (l0.length : Int)) = true := decide_eq_true c86
           clear c86
           by_cases c87 : 0 ≤ ((rd_T53 l0 x10_2).f1)
           ·rw [if_pos c87] at H
            have c87b0 : decide (0 ≤ ((rd_T53 l0 x10_2).f1)) = true := decide_eq_true c87
            clear c87
            by_cases c88 : ((rd_T53 l0 x10_2).f1) < (x8_1.length : Int)
            ·rw [if_pos c88] at H
             have c88b0 : decide (((rd_T53 l0 x10_2).f1) < (x8_1.length : Int)) = true := decide_eq_true c88
             clear c88
             obtain ⟨y160, hy160⟩ : ∃ y_ : List Int, y_ = (x8_1.set (((rd_T53 l0 x10_2).f1) : Int).toNat x11_2) := ⟨_, rfl⟩
             replace H : (if ((rd_T53 l0 x10_2).f1) < (x9_1.length : Int) then (impl_reach.l0 k2 l0 y160 (x9_1.set (((rd_T53 l0 x10_2).f1) : Int).toNat x10_2)) else (none)) = some (r1, r2) := by first | (rw [hy160]; with_reducible exact H) | (have H2_ := (Option.bind_some _ _).symm.trans H; rw [hy160]; with_reducible exact H2_) | (have H2_ := (Option.bind_some _ _).symm.trans H; with_reducible exact H2_) | with_reducible exact H | (rw [hy160]; exact H) | exact H
             have Ny160 := Aside0.mk hy160
             clear hy160
             by_cases c90 : ((rd_T53 l0 x10_2).f1) < (x9_1.length : Int)
             ·rw [if_pos c90] at H
              have c90b0 : decide (((rd_T53 l0 x10_2).f1) < (x9_1.length : Int)) = true := decide_eq_true c90
              clear c90
              obtain ⟨y161, hy161⟩ : ∃ y_ : List Int, y_ = (x9_1.set (((rd_T53 l0 x10_2).f1) : Int).toNat x10_2) := ⟨_, rfl⟩
              replace H : (impl_reach.l0 k2 l0 y160 y161) = some (r1, r2) := by first | (rw [hy161]; with_reducible exact H) | (have H2_ := (Option.bind_some _ _).symm.trans H; rw [hy161]; with_reducible exact H2_) | (have H2_ := (Option.bind_some _ _).symm.trans H; with_reducible exact H2_) | with_reducible exact H | (rw [hy161]; exact H) | exact H
              have Ny161 := Aside0.mk hy161
              clear hy161
              have H' := Aside0.mk H
              clear H
              try go_wp2
              have n0_ := Aside0.mk (Kd.R_drew HO_8.out)
              have n1_ := Aside0.mk (Kd.R_drew HO_9.out)
              have n2_ := Aside0.mk (below_drew1 HB.out)
              clear HO_8
              clear HO_9
              clear HB
              have HO_8 := n0_
              have HO_9 := n1_
              have HB := n2_
              clear n0_ n1_ n2_
              have p158 : 0 ≤ (x10_2 : Int) := of_decide_eq_true (by first | (with_reducible assumption) | assumption)
              have q158 : x10_2 < (l0.length : Int) := of_decide_eq_true (by first | (with_reducible assumption) | assumption)
              obtain ⟨ad158, e158, hx158_0, hx158_1, hx158_2, hx158_3, hx158_4⟩ := at_T53 HR0.out x10_2 p158 q158
              have hw158_4 := hx158_4
              have hw158_3 := hx158_3
              have hw158_2 := hx158_2
              have hw158_1 := hx158_1
              have hw158_0 := hx158_0
              cases e158
              replace hx158_0 := (HB.out.cell (World.block_lt_of_cell? w _ hx158_0)).trans hx158_0
              replace hx158_1 := (HB.out.cell (World.block_lt_of_cell? w _ hx158_1)).trans hx158_1
              replace hx158_2 := (HB.out.cell (World.block_lt_of_cell? w _ hx158_2)).trans hx158_2
              replace hx158_3 := (HB.out.cell (World.block_lt_of_cell? w _ hx158_3)).trans hx158_3
              replace hx158_4 := (HB.out.cell (World.block_lt_of_cell? w _ hx158_4)).trans hx158_4
              replace p158 := eq_true p158
              replace q158 := eq_true q158
              have p159 : 0 ≤ (x10_2 : Int) := of_decide_eq_true (by first | (with_reducible assumption) | assumption)
              have q159 : x10_2 < (l0.length : Int) := of_decide_eq_true (by first | (with_reducible assumption) | assumption)
              obtain ⟨ad159, e159, hx159_0, hx159_1, hx159_2, hx159_3, hx159_4⟩ := at_T53 HR0.out x10_2 p159 q159
              have hw159_4 := hx159_4
              have hw159_3 := hx159_3
              have hw159_2 := hx159_2
              have hw159_1 := hx159_1
              have hw159_0 := hx159_0
              obtain rfl : ad158 = ad159 := (by injection e159)
              replace hx159_0 := (HB.out.cell (World.block_lt_of_cell? w _ hx159_0)).trans hx159_0
              replace hx159_1 := (HB.out.cell (World.block_lt_of_cell? w _ hx159_1)).trans hx159_1
              replace hx159_2 := (HB.out.cell (World.block_lt_of_cell? w _ hx159_2)).trans hx159_2
              replace hx159_3 := (HB.out.cell (World.block_lt_of_cell? w _ hx159_3)).trans hx159_3
              replace hx159_4 := (HB.out.cell (World.block_lt_of_cell? w _ hx159_4)).trans hx159_4
              replace p159 := eq_true p159
              replace q159 := eq_true q159
              have p89 : 0 ≤ (((rd_T53 l0 x10_2).f1) : Int) := of_decide_eq_true (by first | (with_reducible assumption) | assumption)
              have q89 : (((rd_T53 l0 x10_2).f1) : Int) < ((x8_1.length : Int) : Int) := of_decide_eq_true (by first | (with_reducible assumption) | assumption)
              obtain ⟨hx89_0, hf89_0⟩ := Kd.R_celln 0 HO_8.out (((rd_T53 l0 x10_2).f1) : Int) p89 q89
              replace p89 := eq_true p89
              replace q89 := eq_true q89
              have HP93 := Kd.R_putn HO_8.out (((rd_T53 l0 x10_2).f1) : Int) x11_2
              rw [← Ny160.out] at HP93
              have HQ93 := Aside0.mk HP93
              clear HP93
              have p91 : 0 ≤ (((rd_T53 l0 x10_2).f1) : Int) := of_decide_eq_true (by first | (with_reducible assumption) | assumption)
              have q91 : (((rd_T53 l0 x10_2).f1) : Int) < ((x9_1.length : Int) : Int) := of_decide_eq_true (by first | (with_reducible assumption) | assumption)
              obtain ⟨go91, co91, eo91, gb91, gl91, cl91, HG91⟩ := Kd.R_form HO_9.out (by omega)
              (first | cases eo91 | (injection eo91 with ea_ en_ ec_; (first | subst ea_ | (injection ea_ with ea_; subst ea_)); subst ec_; clear en_))
              have GB91 := Aside0.mk gb91
              have GG91 := Aside0.mk HG91
              clear gb91 gl91 HG91
              obtain ⟨hx91_0, hf91_0⟩ := Kd.R_celln 0 (Kd.R_far (p := ⟨go8, (((rd_T53 l0 x10_2).f1) : Int).toNat, none⟩) (Kd.R_mono HO_9.out (fun k_ hk => (⟨hk, fun e_ => hk (by rw [e_]; rfl)⟩ : _ ∧ k_ ≠ go8))) (fun _ hk => hk.2) (.int .i64 x11_2)) (((rd_T53 l0 x10_2).f1) : Int) p91 q91
              replace p91 := eq_true p91
              replace q91 := eq_true q91
              have HP94 := Kd.R_putn (Kd.R_far (p := ⟨go8, (((rd_T53 l0 x10_2).f1) : Int).toNat, none⟩) (Kd.R_mono HO_9.out (fun k_ hk => (⟨hk, fun e_ => hk (by rw [e_]; rfl)⟩ : _ ∧ k_ ≠ go8))) (fun _ hk => hk.2) (.int .i64 x11_2)) (((rd_T53 l0 x10_2).f1) : Int) x10_2
              rw [← Ny161.out] at HP94
              have HQ94 := Aside0.mk HP94
              clear HP94
              refine start_ (n := 18) (S := fun w' => w'.cell? (ad158.add ((x10_2).toNat * 5)) = some (.int .i64 ((rd_T53 l0 x10_2).f0)) ∧ w'.cell? ⟨(ad158.add ((x10_2).toNat * 5)).block, (ad158.add ((x10_2).toNat * 5)).off + 1, none⟩ = some (.int .i64 ((rd_T53 l0 x10_2).f1)) ∧ w'.cell? ⟨(ad158.add ((x10_2).toNat * 5)).block, (ad158.add ((x10_2).toNat * 5)).off + 2, none⟩ = some (.int .i64 ((rd_T53 l0 x10_2).f2)) ∧ w'.cell? ⟨(ad158.add ((x10_2).toNat * 5)).block, (ad158.add ((x10_2).toNat * 5)).off + 3, none⟩ = some (.int .i64 ((rd_T53 l0 x10_2).f3)) ∧ w'.cell? ⟨(ad158.add ((x10_2).toNat * 5)).block, (ad158.add ((x10_2).toNat * 5)).off + 4, none⟩ = some (.int .i64 ((rd_T53 l0 x10_2).f4)) ∧ w'.cell? (ad158.add ((x10_2).toNat * 5)) = some (.int .i64 ((rd_T53 l0 x10_2).f0)) ∧ w'.cell? ⟨(ad158.add ((x10_2).toNat * 5)).block, (ad158.add ((x10_2).toNat * 5)).off + 1, none⟩ = some (.int .i64 ((rd_T53 l0 x10_2).f1)) ∧ w'.cell? ⟨(ad158.add ((x10_2).toNat * 5)).block, (ad158.add ((x10_2).toNat * 5)).off + 2, none⟩ = some (.int .i64 ((rd_T53 l0 x10_2).f2)) ∧ w'.cell? ⟨(ad158.add ((x10_2).toNat * 5)).block, (ad158.add ((x10_2).toNat * 5)).off + 3, none⟩ = some (.int .i64 ((rd_T53 l0 x10_2).f3)) ∧ w'.cell? ⟨(ad158.add ((x10_2).toNat * 5)).block, (ad158.add ((x10_2).toNat * 5)).off + 4, none⟩ = some (.int .i64 ((rd_T53 l0 x10_2).f4))) (ds := [15, 17]) #[ff,ff,ff,ff,ff,ff,ff,ff,ff,ff,ff,ff,ff,ff,ff,ff,ff,ff] (by kernel_rfl) rfl rfl ⟨((HB.out.cell (World.block_lt_of_cell? w _ hw158_0)).trans hw158_0), ((HB.out.cell (World.block_lt_of_cell? w _ hw158_1)).trans hw158_1), ((HB.out.cell (World.block_lt_of_cell? w _ hw158_2)).trans hw158_2), ((HB.out.cell (World.block_lt_of_cell? w _ hw158_3)).trans hw158_3), ((HB.out.cell (World.block_lt_of_cell? w _ hw158_4)).trans hw158_4), ((HB.out.cell (World.block_lt_of_cell? w _ hw159_0)).trans hw159_0), ((HB.out.cell (World.block_lt_of_cell? w _ hw159_1)).trans hw159_1), ((HB.out.cell (World.block_lt_of_cell? w _ hw159_2)).trans hw159_2), ((HB.out.cell (World.block_lt_of_cell? w _ hw159_3)).trans hw159_3), ((HB.out.cell (World.block_lt_of_cell? w _ hw159_4)).trans hw159_4)⟩ (fun hHeld => ?_); refine with_tabW impl_reach.tab14 impl_reach.bits14 (fun HT_ HW_ => ?_)
              generalize wr.drew = w92 at HO_8 HO_9 HB GG91 HQ93 HQ94 hf89_0 hf91_0 hx158_0 hx158_1 hx158_2 hx158_3 hx158_4 hx159_0 hx159_1 hx159_2 hx159_3 hx159_4 hx89_0 hx91_0 hHeld ⊢
              refine pure_ (i := 0) (N := some 81) (v := ?_) (a' := ?_) #[tt,ff,ff,ff,ff,ff,ff,ff,ff,ff,ff,ff,ff,ff,ff,ff,ff,ff] rfl rfl (any_of HT_.out (by kernel_rfl)) (fun _ _ _ h => h) (Or.inl ⟨by rfl, ?_⟩) ?_ ?_
              rotate_left
              ·intro w'
               go_simp
               with_reducible rfl
              rotate_left
              ·simp only [Act.put, List.setIfInBounds_toArray, List.set_cons_zero, List.set_cons_succ, i64_w, i32_w]
               rfl
              refine pure_ (i := 1) (N := some 82) (v := ?_) (a' := ?_) #[tt,tt,ff,ff,ff,ff,ff,ff,ff,ff,ff,ff,ff,ff,ff,ff,ff,ff] rfl rfl (any_of HT_.out (by kernel_rfl)) (fun _ _ _ h => h) (Or.inl ⟨by rfl, ?_⟩) ?_ ?_
              rotate_left
              ·intro w'
               go_simp
               with_reducible rfl
              rotate_left
              ·simp only [Act.put, List.setIfInBounds_toArray, List.set_cons_zero, List.set_cons_succ, i64_w, i32_w]
               rfl
              refine pure_ (i := 2) (N := some 83) (v := ?_) (a' := ?_) #[tt,tt,tt,ff,ff,ff,ff,ff,ff,ff,ff,ff,ff,ff,ff,ff,ff,ff] rfl rfl (any_of HT_.out (by kernel_rfl)) (fun _ _ _ h => h) (Or.inl ⟨by rfl, ?_⟩) ?_ ?_
              rotate_left
              ·intro w'
               go_simp
               with_reducible rfl
              rotate_left
              ·simp only [Act.put, List.setIfInBounds_toArray, List.set_cons_zero, List.set_cons_succ, i64_w, i32_w]
               rfl
              refine pure_ (i := 3) (N := some 84) (v := ?_) (a' := ?_) #[tt,tt,tt,tt,ff,ff,ff,ff,ff,ff,ff,ff,ff,ff,ff,ff,ff,ff] rfl rfl (any_of HT_.out (by kernel_rfl)) (fun _ _ _ h => h) (Or.inl ⟨by rfl, ?_⟩) ?_ ?_
              rotate_left
              ·intro w'
               go_simp
               with_reducible rfl
              rotate_left
              ·simp only [Act.put, List.setIfInBounds_toArray, List.set_cons_zero, List.set_cons_succ, i64_w, i32_w]
               rfl
              refine pure_ (i := 4) (N := some 85) (v := ?_) (a' := ?_) #[tt,tt,tt,tt,tt,ff,ff,ff,ff,ff,ff,ff,ff,ff,ff,ff,ff,ff] rfl rfl (any_of HT_.out (by kernel_rfl)) (fun _ _ _ h => h) (Or.inl ⟨by rfl, ?_⟩) ?_ ?_
              rotate_left
              ·intro w'
               go_simp
               with_reducible rfl
              rotate_left
              ·simp only [Act.put, List.setIfInBounds_toArray, List.set_cons_zero, List.set_cons_succ, i64_w, i32_w]
               rfl
              refine pure_ (i := 6) (N := some 87) (v := ?_) (a' := ?_) #[tt,tt,tt,tt,tt,ff,tt,ff,ff,ff,ff,ff,ff,ff,ff,ff,ff,ff] rfl rfl (any_of HT_.out (by kernel_rfl)) (fun _ _ _ h => h) (Or.inl ⟨by rfl, ?_⟩) ?_ ?_
              rotate_left
              ·intro w'
               go_simp
               with_reducible rfl
              rotate_left
              ·simp only [Act.put, List.setIfInBounds_toArray, List.set_cons_zero, List.set_cons_succ, i64_w, i32_w]
               rfl
              refine pure_ (i := 7) (N := some 88) (v := ?_) (a' := ?_) #[tt,tt,tt,tt,tt,ff,tt,tt,ff,ff,ff,ff,ff,ff,ff,ff,ff,ff] rfl rfl (any_of HT_.out (by kernel_rfl)) (fun _ _ _ h => h) (Or.inl ⟨by rfl, ?_⟩) ?_ ?_
              rotate_left
              ·intro w'
               go_simp
               with_reducible rfl
              rotate_left
              ·simp only [Act.put, List.setIfInBounds_toArray, List.set_cons_zero, List.set_cons_succ, i64_w, i32_w]
               rfl
              refine pure_ (i := 8) (N := some 89) (v := ?_) (a' := ?_) #[tt,tt,tt,tt,tt,ff,tt,tt,tt,ff,ff,ff,ff,ff,ff,ff,ff,ff] rfl rfl (any_of HT_.out (by kernel_rfl)) (fun _ _ _ h => h) (Or.inl ⟨by rfl, ?_⟩) ?_ ?_
              rotate_left
              ·intro w'
               go_simp
               with_reducible rfl
              rotate_left
              ·simp only [Act.put, List.setIfInBounds_toArray, List.set_cons_zero, List.set_cons_succ, i64_w, i32_w]
               rfl
              refine pure_ (i := 9) (N := some 90) (v := ?_) (a' := ?_) #[tt,tt,tt,tt,tt,ff,tt,tt,tt,tt,ff,ff,ff,ff,ff,ff,ff,ff] rfl rfl (any_of HT_.out (by kernel_rfl)) (fun _ _ _ h => h) (Or.inl ⟨by rfl, ?_⟩) ?_ ?_
              rotate_left
              ·intro w'
               go_simp
               with_reducible rfl
              rotate_left
              ·simp only [Act.put, List.setIfInBounds_toArray, List.set_cons_zero, List.set_cons_succ, i64_w, i32_w]
               rfl
              refine pure_ (i := 10) (N := some 91) (v := ?_) (a' := ?_) #[tt,tt,tt,tt,tt,ff,tt,tt,tt,tt,tt,ff,ff,ff,ff,ff,ff,ff] rfl rfl (any_of HT_.out (by kernel_rfl)) (fun _ _ _ h => h) (Or.inl ⟨by rfl, ?_⟩) ?_ ?_
              rotate_left
              ·intro w'
               go_simp
               with_reducible rfl
              rotate_left
              ·simp only [Act.put, List.setIfInBounds_toArray, List.set_cons_zero, List.set_cons_succ, i64_w, i32_w]
               rfl
              refine pure_ (i := 12) (N := some 93) (v := ?_) (a' := ?_) #[tt,tt,tt,tt,tt,ff,tt,tt,tt,tt,tt,ff,tt,ff,ff,ff,ff,ff] rfl rfl (any_of HT_.out (by kernel_rfl)) (fun _ _ _ h => h) (Or.inl ⟨by rfl, ?_⟩) ?_ ?_
              rotate_left
              ·intro w'
               go_simp
               with_reducible rfl
              rotate_left
              ·simp only [Act.put, List.setIfInBounds_toArray, List.set_cons_zero, List.set_cons_succ, i64_w, i32_w]
               rfl
              refine pure_ (i := 13) (N := some 94) (v := ?_) (a' := ?_) #[tt,tt,tt,tt,tt,ff,tt,tt,tt,tt,tt,ff,tt,tt,ff,ff,ff,ff] rfl rfl (any_of HT_.out (by kernel_rfl)) (fun _ _ _ h => h) (Or.inl ⟨by rfl, ?_⟩) ?_ ?_
              rotate_left
              ·intro w'
               go_simp
               with_reducible rfl
              rotate_left
              ·simp only [Act.put, List.setIfInBounds_toArray, List.set_cons_zero, List.set_cons_succ, i64_w, i32_w]
               rfl
              refine take_ (i := 5) (N := some 86) (v := ?_) (a' := ?_) #[tt,tt,tt,tt,tt,tt,tt,tt,tt,tt,tt,ff,tt,tt,ff,ff,ff,ff] rfl rfl (take_ofW HT_.out HW_.out (by kernel_rfl)) (fun _ _ _ h => h) (Or.inl ⟨by rfl, ?_⟩) hHeld ?_ ?_
              rotate_left
              ·rintro w' ⟨s0, s1, s2, s3, s4, s5, s6, s7, s8, s9⟩
               go_simp
               with_reducible rfl
              rotate_left
              ·simp only [Act.put, List.setIfInBounds_toArray, List.set_cons_zero, List.set_cons_succ, i64_w, i32_w]
               rfl
              refine take_ (i := 11) (N := some 92) (v := ?_) (a' := ?_) #[tt,tt,tt,tt,tt,tt,tt,tt,tt,tt,tt,tt,tt,tt,ff,ff,ff,ff] rfl rfl (take_ofW HT_.out HW_.out (by kernel_rfl)) (fun _ _ _ h => h) (Or.inl ⟨by rfl, ?_⟩) hHeld ?_ ?_
              rotate_left
              ·rintro w' ⟨s0, s1, s2, s3, s4, s5, s6, s7, s8, s9⟩
               go_simp
               with_reducible rfl
              rotate_left
              ·simp only [Act.put, List.setIfInBounds_toArray, List.set_cons_zero, List.set_cons_succ, i64_w, i32_w]
               rfl
              refine pure_ (i := 14) (N := some 95) (v := ?_) (a' := ?_) #[tt,tt,tt,tt,tt,tt,tt,tt,tt,tt,tt,tt,tt,tt,tt,ff,ff,ff] rfl rfl (any_of HT_.out (by kernel_rfl)) (fun _ _ _ h => h) (Or.inl ⟨by rfl, ?_⟩) ?_ ?_
              rotate_left
              ·intro w'
               go_simp
               with_reducible rfl
              rotate_left
              ·simp only [Act.put, List.setIfInBounds_toArray, List.set_cons_zero, List.set_cons_succ, i64_w, i32_w]
               rfl
              refine last_ (i := 15) (N := none) #[tt,tt,tt,tt,tt,tt,tt,tt,tt,tt,tt,tt,tt,tt,tt,tt,ff,ff] rfl rfl (one_of HT_.out (by kernel_rfl)) (by decide) (fun K hK => ?_)
              refine skip_ (w1 := ?_) (by rfl) rfl ?_ ?_
              rotate_left
              ·go_simp
               rfl
              refine hK.out _ _ ?_
              clear hK K
              refine pure_ (i := 16) (N := some 96) (v := ?_) (a' := ?_) #[tt,tt,tt,tt,tt,tt,tt,tt,tt,tt,tt,tt,tt,tt,tt,tt,tt,ff] rfl rfl (any_of HT_.out (by kernel_rfl)) (fun _ _ _ h => h) (Or.inl ⟨by rfl, ?_⟩) ?_ ?_
              rotate_left
              ·intro w'
               go_simp
               with_reducible rfl
              rotate_left
              ·simp only [Act.put, List.setIfInBounds_toArray, List.set_cons_zero, List.set_cons_succ, i64_w, i32_w]
               rfl
              refine last_ (i := 17) (N := none) #[tt,tt,tt,tt,tt,tt,tt,tt,tt,tt,tt,tt,tt,tt,tt,tt,tt,tt] rfl rfl (one_of HT_.out (by kernel_rfl)) (by decide) (fun K hK => ?_)
              refine skip_ (w1 := ?_) (by rfl) rfl ?_ ?_
              rotate_left
              ·go_simp
               rfl
              refine hK.out _ _ ?_
              clear hK K
              refine done_ (done_of HT_.out (by kernel_rfl)) ?_
              try go_wp2
              (try simp only [← hl8_1])
              go_roundg k2
              case measure => have := HK1.out; have := HK2.out; omega
              case rel => exact ⟨(y160), (y161), H', ⟨by have := HK1.out; have := HK2.out; omega⟩, ⟨by (try simp only [hl8_1]); (with_reducible repeat (first | apply Kd.R_alloc | apply Kd.R_drewN | apply Kd.R_drew)); exact Kd.R_mono (Kd.R_far (p := ⟨go91, (((rd_T53 l0 x10_2).f1) : Int).toNat, none⟩) (Kd.R_mono HQ93.out (fun k_ hk => (⟨hk, fun e_ => hk (by rw [e_]; rfl)⟩ : _ ∧ k_ ≠ go91))) (fun _ hk => hk.2) (.int .i64 x10_2)) (fun _ hk => hk.1)⟩, ⟨by (try simp only [hl8_1]); (with_reducible repeat (first | apply Kd.R_alloc | apply Kd.R_drewN | apply Kd.R_drew)); exact Kd.R_mono HQ94.out (fun _ hk => hk.1)⟩, ⟨by repeat (first | (with_reducible first | exact HB.out | apply below_alloc | apply pw_below_drewN | apply below_drew1 | refine below_set ?_ GB8.out | refine below_set ?_ GB91.out) | exact HB.out | (with_reducible exact Below.refl _ _))⟩⟩
             ·rw [if_neg c90] at H
              exact absurd H (by simp)
            ·rw [if_neg c88] at H
             exact absurd H (by simp)
           ·rw [if_neg c87] at H
            exact absurd H (by simp)
          ·rw [if_neg c86] at H
           exact absurd H (by simp)
         ·rw [if_neg c85] at H
          exact absurd H (by simp)
  ·rw [if_neg c7] at H
   exact absurd H (by simp)
 ·rw [if_neg c6] at H
  exact absurd H (by simp)
end Go.Proofs.Ytckndinhkkhonaa.QFnLatest
