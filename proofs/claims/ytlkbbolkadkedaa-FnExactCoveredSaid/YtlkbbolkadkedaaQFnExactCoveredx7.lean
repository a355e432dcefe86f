import Derived.Test.YtlkbbolkadkedaaQFnExactCoveredx0
import Derived.Test.YtlkbbolkadkedaaQFnExactCoveredx6
import Derived.Test.YtlkbbolkadkedaaSq
namespace Go.Proofs.Ytlkbbolkadkedaa.QFnExactCovered
open Go.RowKit Go.Proofs.YtlkbbolkadkedaaW.PrintWords Go.Proofs.YtlkbbolkadkedaaW.PrintLast Go.Proofs.YtlkbbolkadkedaaW.PrintMore
attribute [local go_sem] max2_int min2_int max_two min_two max_three min_three max_four min_four   -- for this text's walks alone
set_option linter.unusedVariables false
set_option linter.unusedSimpArgs false
mutual
def spec_l4Bytes.l0 : Nat → List Int → List Bool → List (S46) → Int → Int → Option (List Int × List Bool)
 | 0, _, _, _, _, _ => none
 | k + 1, x5, x6, x24, x25, x26 => if x26 < x25 then (if 0 ≤ x26 then (if x26 < (x24.length : Int) then (spec_l4Bytes.l1 k x5 x6 0 x24 x25 x26 ((rd_T46 x24 x26).f0) ((rd_T46 x24 x26).f1) ((rd_T46 x24 x26).f2) ((rd_T46 x24 x26).f3) ((rd_T46 x24 x26).f4) ((rd_T46 x24 x26).f5) ((rd_T46 x24 x26).f6) ((rd_T46 x24 x26).f7) ((rd_T46 x24 x26).f8) ((rd_T46 x24 x26).f9)) else (none)) else (none)) else (some (x5, x6))
def spec_l4Bytes.l1 : Nat → List Int → List Bool → Int → List (S46) → Int → Int → Int → Int → Bool → Int → Int → Int → Int → Int → Int → ByteArray → Option (List Int × List Bool)
 | 0, _, _, _, _, _, _, _, _, _, _, _, _, _, _, _, _ => none
 | k + 1, x5, x6, x9, x24, x25, x26, x178000, x178001, x178002, x178003, x178004, x178005, x178006, x178007, x178008, x178009 => if x9 < (x178009.size : Int) then (if 0 ≤ x9 then (if 0 ≤ (wrap64 (x178007 + x9)) then (if (wrap64 (x178007 + x9)) < (x5.length : Int) then (if (wrap64 (x178007 + x9)) < (x6.length : Int) then (spec_l4Bytes.l1 k (x5.set ((wrap64 (x178007 + x9)) : Int).toNat (bt x178009 x9)) (x6.set ((wrap64 (x178007 + x9)) : Int).toNat true) (wrap64 (x9 + 1)) x24 x25 x26 x178000 x178001 x178002 x178003 x178004 x178005 x178006 x178007 x178008 x178009) else (none)) else (none)) else (none)) else (none)) else (spec_l4Bytes.l0 k x5 x6 x24 x25 (wrap64 (x26 + 1)))
end
def spec_l4Bytes.f (k : Nat) (l0_0 : List (S46)) : Option (List Int × List Bool) := if (l0_0.length : Int) = 0 then (some (([] : List Int), ([] : List Bool))) else (if 0 < (l0_0.length : Int) then (if 0 ≤ ((rd_T46 l0_0 0).f8) then (if ((rd_T46 l0_0 0).f8 : Int).toNat ≤ 281474976710656 then (spec_l4Bytes.l0 k (List.replicate ((rd_T46 l0_0 0).f8 : Int).toNat 0) (List.replicate ((rd_T46 l0_0 0).f8 : Int).toNat false) l0_0 (l0_0.length : Int) 0) else (none)) else (none)) else (none))
theorem spec_l4Bytes.mono_l : ∀ k, (∀ y0 y1 y2 y3 y4, LeO (spec_l4Bytes.l0 k y0 y1 y2 y3 y4) (spec_l4Bytes.l0 (k + 1) y0 y1 y2 y3 y4)) ∧ (∀ y0 y1 y2 y3 y4 y5 y6 y7 y8 y9 y10 y11 y12 y13 y14 y15, LeO (spec_l4Bytes.l1 k y0 y1 y2 y3 y4 y5 y6 y7 y8 y9 y10 y11 y12 y13 y14 y15) (spec_l4Bytes.l1 (k + 1) y0 y1 y2 y3 y4 y5 y6 y7 y8 y9 y10 y11 y12 y13 y14 y15))
 | 0 => ⟨fun _ _ _ _ _ r h => by simp [spec_l4Bytes.l0] at h, fun _ _ _ _ _ _ _ _ _ _ _ _ _ _ _ _ r h => by simp [spec_l4Bytes.l1] at h⟩
 | k + 1 => by
  obtain ⟨ih0, ih1⟩ := spec_l4Bytes.mono_l k; refine ⟨?_, ?_⟩
  ·intro y0 y1 y2 y3 y4; unfold spec_l4Bytes.l0
   repeat' first
   | (with_reducible exact ih0 _ _ _ _ _)
   | (with_reducible exact ih1 _ _ _ _ _ _ _ _ _ _ _ _ _ _ _ _)
   | (with_reducible exact LeO.refl _)
   | (with_reducible exact LeO.none _)
   | (with_reducible refine LeO.ite ?_ ?_)
   | (with_reducible refine LeO.bind ?_ (fun _ => ?_))
   | exact ih0 _ _ _ _ _
   | exact ih1 _ _ _ _ _ _ _ _ _ _ _ _ _ _ _ _
   | exact LeO.none _
   | refine LeO.ite ?_ ?_
   | refine LeO.bind ?_ (fun _ => ?_)
  ·intro y0 y1 y2 y3 y4 y5 y6 y7 y8 y9 y10 y11 y12 y13 y14 y15; unfold spec_l4Bytes.l1
   repeat' first
   | (with_reducible exact ih0 _ _ _ _ _)
   | (with_reducible exact ih1 _ _ _ _ _ _ _ _ _ _ _ _ _ _ _ _)
   | (with_reducible exact LeO.refl _)
   | (with_reducible exact LeO.none _)
   | (with_reducible refine LeO.ite ?_ ?_)
   | (with_reducible refine LeO.bind ?_ (fun _ => ?_))
   | exact ih0 _ _ _ _ _
   | exact ih1 _ _ _ _ _ _ _ _ _ _ _ _ _ _ _ _
   | exact LeO.none _
   | refine LeO.ite ?_ ?_
   | refine LeO.bind ?_ (fun _ => ?_)
theorem spec_l4Bytes.mono : ∀ a0 k, LeO (spec_l4Bytes.f k a0) (spec_l4Bytes.f (k + 1) a0) := by
 intro a0 k; obtain ⟨ih0, ih1⟩ := spec_l4Bytes.mono_l k; unfold spec_l4Bytes.f
 repeat' first
   | (with_reducible exact ih0 _ _ _ _ _)
   | (with_reducible exact ih1 _ _ _ _ _ _ _ _ _ _ _ _ _ _ _ _)
   | (with_reducible exact LeO.refl _)
   | (with_reducible exact LeO.none _)
   | (with_reducible refine LeO.ite ?_ ?_)
   | (with_reducible refine LeO.bind ?_ (fun _ => ?_))
   | exact ih0 _ _ _ _ _
   | exact ih1 _ _ _ _ _ _ _ _ _ _ _ _ _ _ _ _
   | exact LeO.none _
   | refine LeO.ite ?_ ?_
   | refine LeO.bind ?_ (fun _ => ?_)
def spec_l4Bytes.T12 : Bool × List (List Nat × List Nat) := (true, [([], []), ([], []), ([1], [1]), ([], []), ([2, 3], [2, 3]), ([], []), ([5], [5]), ([], []), ([6, 7], [6, 7]), ([0, 4, 0, 1, 2, 3, 4, 5, 6, 7, 8], [0, 4]), ([9, 8, 0, 1, 2, 3, 4, 5, 6, 7, 8], [8, 9])])
def spec_l4Bytes.B12 : List Nat := [0, 0, 2, 0, 14, 0, 32, 0, 224, 511, 1023]
theorem spec_l4Bytes.tab12 : rtab .any (opsOf Try.f53 12) = spec_l4Bytes.T12 := by kernel_rfl
theorem spec_l4Bytes.bits12 : waitsOk spec_l4Bytes.T12.2 spec_l4Bytes.B12 = true := by kernel_rfl
set_option maxHeartbeats 8000000 in
set_option maxRecDepth 100000 in
theorem spec_l4Bytes.calls (k : Nat) (A0_0 : Option Addr) (c0_0 : Nat) (l0_0 : List (S46)) (r1 : List Int) (r2 : List Bool) (w : World) (hr0_0 : Kd.C k46 w A0_0 l0_0.length l0_0) (hc0_0 : l0_0.length ≤ c0_0) (h : spec_l4Bytes.f k l0_0 = some (r1, r2)) :
  Calls Try.prog 53 #[.agg #[.slice A0_0 l0_0.length c0_0]] w fun e w' => ∃ v0_ v1_ : Value, e = .returned (.tuple #[v0_, v1_]) ∧ Kd.R (Kd.int .u8) 5 w' w.heap.size (fun _ => True) v0_ r1 ∧ Kd.R Kd.bool 4 w' w.heap.size (fun _ => True) v1_ r2 ∧ Below w.heap.size w w' := by
 have hu29 := Try.underlying29; have hu46 := Try.underlying46; have HR0_0 := Aside0.mk hr0_0; have HC0_0 := Aside0.mk hc0_0; clear hr0_0 hc0_0; have HB := Aside0.mk (Below.refl w.heap.size w); have H : (if (l0_0.length : Int) = 0 then (some (([] : List Int), ([] : List Bool))) else (if 0 < (l0_0.length : Int) then (if 0 ≤ ((rd_T46 l0_0 0).f8) then (if ((rd_T46 l0_0 0).f8 : Int).toNat ≤ 281474976710656 then (spec_l4Bytes.l0 k (List.replicate ((rd_T46 l0_0 0).f8 : Int).toNat 0) (List.replicate ((rd_T46 l0_0 0).f8 : Int).toNat false) l0_0 (l0_0.length : Int) 0) else (none)) else (none)) else (none))) = some (r1, r2) := h; clear h; by_cases c2 : (l0_0.length : Int) = 0
 ·rw [if_pos c2] at H; have c2b0 : ((l0_0.length : Int) == 0) = true := beq_iff_eq.mpr c2; have c2b1 : ((l0_0.length : Int) != 0) = false := bne_eq_false_iff_eq.mpr c2; clear c2; simp only [Option.some.injEq, Prod.mk.injEq] at H; obtain ⟨rfl, rfl⟩ := H
  go_enter Try.func53, Try.ntmps53
  go_wp2_with (first | ((with_reducible refine gate_dst (N := 1) rfl ?_); refine box_event ?hg (N := 1) ?hd (cs := #[.slice A0_0 l0_0.length c0_0]) (t := 29) ?hr ?_; (case hd => rfl); (case hg => rfl); (case hr => first | (go_simp; done) | (go_simp; rfl)); intro gb168 hg w3 hbox hb; have n0_ := Aside0.mk (bs_ hb); have n1_ := Aside0.mk (hbox); have n2_ := Aside0.mk ((by rw [hg]; exact bz_ : w.heap.size ≤ gb168)); have n3_ := Aside0.mk ((by rw [hg]; exact bz_ : w.heap.size ≤ gb168)); clear HB; have HB := n0_; have BK168 := n1_; have GW168 := n2_; have GE168 := n3_; clear n0_ n1_ n2_ n3_; clear hb hbox hg; have hcz4_0 : w3.cell? ⟨gb168, 0, none⟩ = some (.slice A0_0 l0_0.length c0_0) := (blk_cell BK168.out 0).trans rfl; have hfz4_0 := blk_frozen BK168.out 0)); go_ret2; exact ⟨_, _, by first | rfl | (simp [errW_none, errW_some] <;> rfl) | (simp [*, errW_none, errW_some] <;> rfl), by first | exact Kd.R_nil _ _ _ _ _ | exact Kd.N_nil _ _ _ _ _ | exact Kd.V_nil _ _ _ _ _ | exact Kd.Q_nil _ _ _ _ _ | exact Kd.S_nil _ _ _ _ _, by first | exact Kd.R_nil _ _ _ _ _ | exact Kd.N_nil _ _ _ _ _ | exact Kd.V_nil _ _ _ _ _ | exact Kd.Q_nil _ _ _ _ _ | exact Kd.S_nil _ _ _ _ _, by repeat (first | (with_reducible first | exact HB.out | apply below_alloc | apply pw_below_drewN | apply below_drew1 | refine below_set ?_ GE168.out) | exact HB.out | (with_reducible exact Below.refl _ _))⟩
 ·rw [if_neg c2] at H; have c2b0 : ((l0_0.length : Int) == 0) = false := beq_eq_false_iff_ne.mpr c2; have c2b1 : ((l0_0.length : Int) != 0) = true := bne_iff_ne.mpr c2; have c2b2 : ¬ (l0_0 = []) := fun h_ => c2 (by rw [h_]; rfl)
  by_cases c5 : 0 < (l0_0.length : Int)
  ·rw [if_pos c5] at H; have c5b0 : decide (0 < (l0_0.length : Int)) = true := decide_eq_true c5; have c5b1 : decide (0 < l0_0.length) = true := decide_eq_true (by omega); clear c5; by_cases c6 : 0 ≤ ((rd_T46 l0_0 0).f8)
   ·rw [if_pos c6] at H; have c6b0 := eq_true c6; have c6b1 : decide (0 ≤ ((rd_T46 l0_0 0).f8)) = true := decide_eq_true c6; clear c6; by_cases c7 : ((rd_T46 l0_0 0).f8 : Int).toNat ≤ 281474976710656
    ·rw [if_pos c7] at H; have c7b0 := eq_true c7; have c7b1 : decide (((rd_T46 l0_0 0).f8 : Int).toNat ≤ 281474976710656) = true := decide_eq_true c7; clear c7; obtain ⟨y170, hy170⟩ : ∃ y_ : List Int, y_ = (List.replicate ((rd_T46 l0_0 0).f8 : Int).toNat 0) := ⟨_, rfl⟩
     replace H : (spec_l4Bytes.l0 k y170 (List.replicate ((rd_T46 l0_0 0).f8 : Int).toNat false) l0_0 (l0_0.length : Int) 0) = some (r1, r2) := by first | (rw [hy170]; with_reducible exact H) | (have H2_ := (Option.bind_some _ _).symm.trans H; rw [hy170]; with_reducible exact H2_) | (have H2_ := (Option.bind_some _ _).symm.trans H; with_reducible exact H2_) | with_reducible exact H | (rw [hy170]; exact H) | exact H
     have Ny170 := Aside0.mk hy170; clear hy170; obtain ⟨y173, hy173⟩ : ∃ y_ : List Bool, y_ = (List.replicate ((rd_T46 l0_0 0).f8 : Int).toNat false) := ⟨_, rfl⟩
     replace H : (spec_l4Bytes.l0 k y170 y173 l0_0 (l0_0.length : Int) 0) = some (r1, r2) := by first | (rw [hy173]; with_reducible exact H) | (have H2_ := (Option.bind_some _ _).symm.trans H; rw [hy173]; with_reducible exact H2_) | (have H2_ := (Option.bind_some _ _).symm.trans H; with_reducible exact H2_) | with_reducible exact H | (rw [hy173]; exact H) | exact H
     have Ny173 := Aside0.mk hy173; clear hy173; have H' := Aside0.mk H; clear H
     go_enter Try.func53, Try.ntmps53
     go_wp2_with (first | ((with_reducible refine gate_dst (N := 1) rfl ?_); refine box_event ?hg (N := 1) ?hd (cs := #[.slice A0_0 l0_0.length c0_0]) (t := 29) ?hr ?_; (case hd => rfl); (case hg => rfl); (case hr => first | (go_simp; done) | (go_simp; rfl)); intro gb168 hg w8 hbox hb; have n0_ := Aside0.mk (bs_ hb); have n1_ := Aside0.mk (hbox); have n2_ := Aside0.mk ((by rw [hg]; exact bz_ : w.heap.size ≤ gb168)); have n3_ := Aside0.mk ((by rw [hg]; exact bz_ : w.heap.size ≤ gb168)); clear HB; have HB := n0_; have BK168 := n1_; have GW168 := n2_; have GE168 := n3_; clear n0_ n1_ n2_ n3_; clear hb hbox hg; have hcz9_0 : w8.cell? ⟨gb168, 0, none⟩ = some (.slice A0_0 l0_0.length c0_0) := (blk_cell BK168.out 0).trans rfl; have hfz9_0 := blk_frozen BK168.out 0; have p169 : 0 ≤ (0 : Int) := (by omega); have q169 : 0 < (l0_0.length : Int) := of_decide_eq_true (by first | (with_reducible assumption) | assumption); obtain ⟨ad169, e169, hx169_0, hx169_1, hx169_2, hx169_3, hx169_4, hx169_5, hx169_6, hx169_7, hx169_8, hx169_9⟩ := at_T46 HR0_0.out 0 p169 q169; cases e169; have qi169 : (0 < l0_0.length) = True := eq_true (by omega); (try rw [show ((0 : Int)).toNat = 0 from rfl] at hx169_0); (try rw [show 0 * 10 = 0 from rfl] at hx169_0); (try rw [Addr.add_zero'] at hx169_0); (try rw [show ((0 : Int)).toNat = 0 from rfl] at hx169_1); (try rw [show 0 * 10 = 0 from rfl] at hx169_1); (try rw [Addr.add_zero'] at hx169_1); (try rw [show ((0 : Int)).toNat = 0 from rfl] at hx169_2); (try rw [show 0 * 10 = 0 from rfl] at hx169_2); (try rw [Addr.add_zero'] at hx169_2); (try rw [show ((0 : Int)).toNat = 0 from rfl] at hx169_3); (try rw [show 0 * 10 = 0 from rfl] at hx169_3); (try rw [Addr.add_zero'] at hx169_3); (try rw [show ((0 : Int)).toNat = 0 from rfl] at hx169_4); (try rw [show 0 * 10 = 0 from rfl] at hx169_4); (try rw [Addr.add_zero'] at hx169_4); (try rw [show ((0 : Int)).toNat = 0 from rfl] at hx169_5); (try rw [show 0 * 10 = 0 from rfl] at hx169_5); (try rw [Addr.add_zero'] at hx169_5); (try rw [show ((0 : Int)).toNat = 0 from rfl] at hx169_6); (try rw [show 0 * 10 = 0 from rfl] at hx169_6); (try rw [Addr.add_zero'] at hx169_6); (try rw [show ((0 : Int)).toNat = 0 from rfl] at hx169_7); (try rw [show 0 * 10 = 0 from rfl] at hx169_7); (try rw [Addr.add_zero'] at hx169_7); (try rw [show ((0 : Int)).toNat = 0 from rfl] at hx169_8); (try rw [show 0 * 10 = 0 from rfl] at hx169_8); (try rw [Addr.add_zero'] at hx169_8); (try rw [show ((0 : Int)).toNat = 0 from rfl] at hx169_9); (try rw [show 0 * 10 = 0 from rfl] at hx169_9); (try rw [Addr.add_zero'] at hx169_9); replace hx169_0 := (HB.out.cell (World.block_lt_of_cell? w _ hx169_0)).trans hx169_0; replace hx169_1 := (HB.out.cell (World.block_lt_of_cell? w _ hx169_1)).trans hx169_1; replace hx169_2 := (HB.out.cell (World.block_lt_of_cell? w _ hx169_2)).trans hx169_2; replace hx169_3 := (HB.out.cell (World.block_lt_of_cell? w _ hx169_3)).trans hx169_3; replace hx169_4 := (HB.out.cell (World.block_lt_of_cell? w _ hx169_4)).trans hx169_4; replace hx169_5 := (HB.out.cell (World.block_lt_of_cell? w _ hx169_5)).trans hx169_5; replace hx169_6 := (HB.out.cell (World.block_lt_of_cell? w _ hx169_6)).trans hx169_6; replace hx169_7 := (HB.out.cell (World.block_lt_of_cell? w _ hx169_7)).trans hx169_7; replace hx169_8 := (HB.out.cell (World.block_lt_of_cell? w _ hx169_8)).trans hx169_8; replace hx169_9 := (HB.out.cell (World.block_lt_of_cell? w _ hx169_9)).trans hx169_9; replace p169 := eq_true p169; replace q169 := eq_true q169) | ((with_reducible refine gate_dst (N := 20) rfl ?_); refine Kd.R_make (Kd.int .u8) _ 5 rfl (N := 20) rfl 52 _ _ rfl ((rd_T46 l0_0 0).f8) rfl rfl Try.underlying52 (.int .u8 0) 1 info5 rfl (by decide) (by omega) 0 (ok := fun _ => True) (okp := fun _ => True) rfl (fun _ hk => hk) trivial (of_decide_eq_true (by first | (with_reducible assumption) | assumption)) (Nat.le_trans (Nat.mul_le_mul_right _ (of_decide_eq_true (by first | (with_reducible assumption) | assumption) : ((rd_T46 l0_0 0).f8).toNat ≤ 281474976710656)) (by omega)) (Below.refl _ _) (Nat.le_refl _) ?_; intro v171 w10 ho11 hb hg_ hnew_; clear hg_ hnew_; (first | rw [← Ny170.out] at ho11 | (simp only [Int.reduceToNat] at ho11; rw [← Ny170.out] at ho11)); have n0_ := Aside0.mk (Kd.R_lower ho11 (below_size (by repeat (first | (with_reducible first | exact HB.out | apply below_alloc | apply pw_below_drewN | apply below_drew1 | refine below_set ?_ GE168.out) | exact HB.out | (with_reducible exact Below.refl _ _))))); have n1_ := Aside0.mk (blk_below (g := gb168) (o := .cells #[.slice (some ad169) l0_0.length c0_0] 29 (0, 0)) (by (with_reducible repeat (first | refine blk_drewN ?_ _ | refine blk_drew ?_ | refine blk_alloc ?_ _)); exact BK168.out) hb); have n2_ := Aside0.mk (below_step (by repeat (first | (with_reducible first | exact HB.out | apply below_alloc | apply pw_below_drewN | apply below_drew1 | refine below_set ?_ GE168.out) | exact HB.out | (with_reducible exact Below.refl _ _))) hb); clear BK168; clear HB; have HO172 := n0_; have BK168 := n1_; have HB := n2_; clear n0_ n1_ n2_; clear hb ho11) | ((with_reducible refine gate_dst (N := 22) rfl ?_); refine Kd.R_make Kd.bool _ 4 rfl (N := 22) rfl 73 _ _ rfl ((rd_T46 l0_0 0).f8) rfl rfl Try.underlying73 (.bool false) 1 info4 rfl (by decide) (by omega) false (ok := fun _ => True) (okp := fun _ => True) rfl (fun _ hk => hk) trivial (of_decide_eq_true (by first | (with_reducible assumption) | assumption)) (Nat.le_trans (Nat.mul_le_mul_right _ (of_decide_eq_true (by first | (with_reducible assumption) | assumption) : ((rd_T46 l0_0 0).f8).toNat ≤ 281474976710656)) (by omega)) (Below.refl _ _) (Nat.le_refl _) ?_; intro v174 w12 ho13 hb hg_ hnew_; clear hg_ hnew_; (first | rw [← Ny173.out] at ho13 | (simp only [Int.reduceToNat] at ho13; rw [← Ny173.out] at ho13)); have n0_ := Aside0.mk (Kd.R_below (by (with_reducible repeat (first | apply Kd.R_alloc | apply Kd.R_drewN | apply Kd.R_drew)); exact HO172.out) hb); have n1_ := Aside0.mk (Kd.R_lower ho13 (below_size (by repeat (first | (with_reducible first | exact HB.out | apply below_alloc | apply pw_below_drewN | apply below_drew1 | refine below_set ?_ GE168.out) | exact HB.out | (with_reducible exact Below.refl _ _))))); have n2_ := Aside0.mk (blk_below (g := gb168) (o := .cells #[.slice (some ad169) l0_0.length c0_0] 29 (0, 0)) (by (with_reducible repeat (first | refine blk_drewN ?_ _ | refine blk_drew ?_ | refine blk_alloc ?_ _)); exact BK168.out) hb); have n3_ := Aside0.mk (below_step (by repeat (first | (with_reducible first | exact HB.out | apply below_alloc | apply pw_below_drewN | apply below_drew1 | refine below_set ?_ GE168.out) | exact HB.out | (with_reducible exact Below.refl _ _))) hb); clear HO172; clear BK168; clear HB; have HO172 := n0_; have HO175 := n1_; have BK168 := n2_; have HB := n3_; clear n0_ n1_ n2_ n3_; clear hb ho13; have hcz14_0 : w12.cell? ⟨gb168, 0, none⟩ = some (.slice (some ad169) l0_0.length c0_0) := (blk_cell BK168.out 0).trans rfl; have hfz14_0 := blk_frozen BK168.out 0))
     go_loopg [26] k (fun kq v26 w' => ∃ (x5_1 : List Int) (x6_1 : List Bool) (x26_1 : Int), v26 = .int .i64 x26_1 ∧ Aside0 (spec_l4Bytes.l0 kq x5_1 x6_1 l0_0 (l0_0.length : Int) x26_1 = some (r1, r2)) ∧ Aside0 (kq ≤ k) ∧ Aside0 (Kd.R (Kd.int .u8) 5 w' w.heap.size (fun _ => True) v171 x5_1) ∧ Aside0 (Kd.R Kd.bool 4 w' w.heap.size (fun _ => True) v174 x6_1) ∧ Aside0 (w'.heap[gb168]? = some (.cells #[(.slice (some ad169) l0_0.length c0_0)] 29 (0, 0))) ∧ Aside0 (Below w.heap.size w w'))
     case atStart => exact ⟨(y170), (y173), (0), (by first | rfl | (simp; done) | (simp [*]; done)), H', ⟨Nat.le_refl _⟩, ⟨by (with_reducible repeat (first | apply Kd.R_alloc | apply Kd.R_drewN | apply Kd.R_drew)); exact HO172.out⟩, ⟨by (with_reducible repeat (first | apply Kd.R_alloc | apply Kd.R_drewN | apply Kd.R_drew)); exact HO175.out⟩, ⟨by (with_reducible repeat (first | refine blk_drewN ?_ _ | refine blk_drew ?_ | refine blk_alloc ?_ _)); exact BK168.out⟩, ⟨by repeat (first | (with_reducible first | exact HB.out | apply below_alloc | apply pw_below_drewN | apply below_drew1 | refine below_set ?_ GE168.out) | exact HB.out | (with_reducible exact Below.refl _ _))⟩⟩
     case round =>
      clear H'; try clear p1
      try clear q1
      try clear hx1
      try clear qi1
      try clear c2
      try clear c2b0
      try clear c2b1
      try clear c2b2
      try clear p2
      try clear c5
      try clear c5b0
      try clear c5b1
      try clear c6
      try clear c6b0
      try clear c6b1
      try clear c7
      try clear c7b0
      try clear c7b1
      try clear hcz14_0
      try clear hcz4_0
      try clear hcz9_0
      try clear hfz14_0
      try clear hfz4_0
      try clear hfz9_0
      try clear hx169_0
      try clear hx169_1
      try clear hx169_2
      try clear hx169_3
      try clear hx169_4
      try clear hx169_5
      try clear hx169_6
      try clear hx169_7
      try clear hx169_8
      try clear hx169_9
      try clear p169
      try clear q169
      obtain ⟨x5_1, x6_1, x26_1, rfl, HA, HK1, HO_5, HO_6, BK168, HB⟩ := hrel; cases gk with
      | zero => exact absurd HA.out (by simp [spec_l4Bytes.l0])
      | succ k1 =>
       have H := HA.out; clear HA; simp only [spec_l4Bytes.l0] at H; by_cases c15 : x26_1 < (l0_0.length : Int)
       ·rw [if_pos c15] at H; have c15b0 : decide (x26_1 < (l0_0.length : Int)) = true := decide_eq_true c15; clear c15; by_cases c16 : 0 ≤ x26_1
        ·rw [if_pos c16] at H; have c16b0 : decide (0 ≤ x26_1) = true := decide_eq_true c16; clear c16; by_cases c17 : x26_1 < (l0_0.length : Int)
         ·rw [if_pos c17] at H; have c17b0 : decide (x26_1 < (l0_0.length : Int)) = true := decide_eq_true c17; clear c17; have H' := Aside0.mk H; clear H; have p176 : 0 ≤ (x26_1 : Int) := of_decide_eq_true (by first | (with_reducible assumption) | assumption); have q176 : x26_1 < (l0_0.length : Int) := of_decide_eq_true (by first | (with_reducible assumption) | assumption); obtain ⟨ad176, e176, hx176_0, hx176_1, hx176_2, hx176_3, hx176_4, hx176_5, hx176_6, hx176_7, hx176_8, hx176_9⟩ := at_T46 HR0_0.out x26_1 p176 q176; obtain rfl : ad169 = ad176 := (by injection e176)
          replace hx176_0 := (HB.out.cell (World.block_lt_of_cell? w _ hx176_0)).trans hx176_0; replace hx176_1 := (HB.out.cell (World.block_lt_of_cell? w _ hx176_1)).trans hx176_1; replace hx176_2 := (HB.out.cell (World.block_lt_of_cell? w _ hx176_2)).trans hx176_2; replace hx176_3 := (HB.out.cell (World.block_lt_of_cell? w _ hx176_3)).trans hx176_3; replace hx176_4 := (HB.out.cell (World.block_lt_of_cell? w _ hx176_4)).trans hx176_4; replace hx176_5 := (HB.out.cell (World.block_lt_of_cell? w _ hx176_5)).trans hx176_5; replace hx176_6 := (HB.out.cell (World.block_lt_of_cell? w _ hx176_6)).trans hx176_6; replace hx176_7 := (HB.out.cell (World.block_lt_of_cell? w _ hx176_7)).trans hx176_7; replace hx176_8 := (HB.out.cell (World.block_lt_of_cell? w _ hx176_8)).trans hx176_8; replace hx176_9 := (HB.out.cell (World.block_lt_of_cell? w _ hx176_9)).trans hx176_9; replace p176 := eq_true p176; replace q176 := eq_true q176; go_wp2_with (first | ((with_reducible refine gate_dst (N := 8) rfl ?_); refine box_event ?hg (N := 8) ?hd (cs := #[.int .i64 0, .int .i64 0, .bool false, .int .i64 0, .int .i64 0, .int .i64 0, .int .i64 0, .int .i64 0, .int .i64 0, .string (⟨#[]⟩ : ByteArray)]) (t := 46) ?hr ?_; (case hd => rfl); (case hg => rfl); (case hr => first | (go_simp; done) | (go_simp; rfl)); intro gb177 hg w18 hbox hb; have n0_ := Aside0.mk (Kd.R_below (by (with_reducible repeat (first | apply Kd.R_alloc | apply Kd.R_drewN | apply Kd.R_drew)); exact HO_5.out) hb); have n1_ := Aside0.mk (Kd.R_below (by (with_reducible repeat (first | apply Kd.R_alloc | apply Kd.R_drewN | apply Kd.R_drew)); exact HO_6.out) hb); have n2_ := Aside0.mk (blk_below (g := gb168) (o := .cells #[.slice (some ad169) l0_0.length c0_0] 29 (0, 0)) (by (with_reducible repeat (first | refine blk_drewN ?_ _ | refine blk_drew ?_ | refine blk_alloc ?_ _)); exact BK168.out) hb); have n3_ := Aside0.mk (below_step (by repeat (first | (with_reducible first | exact HB.out | apply below_alloc | apply pw_below_drewN | apply below_drew1 | refine below_set ?_ GE168.out) | exact HB.out | (with_reducible exact Below.refl _ _))) hb); have n4_ := Aside0.mk (hbox); have n5_ := Aside0.mk ((by rw [hg]; exact (below_size (by repeat (first | (with_reducible first | exact HB.out | apply below_alloc | apply pw_below_drewN | apply below_drew1 | refine below_set ?_ GE168.out) | exact HB.out | (with_reducible exact Below.refl _ _)))) : w.heap.size ≤ gb177)); have n6_ := Aside0.mk ((by rw [hg]; exact (below_size (by repeat (first | (with_reducible first | exact HB.out | apply below_alloc | apply pw_below_drewN | apply below_drew1 | refine below_set ?_ GE168.out) | exact HB.out | (with_reducible exact Below.refl _ _)))) : w.heap.size ≤ gb177)); have n7_ := Aside0.mk ((by rw [hg]; exact Nat.ne_of_lt (blk_lt (g := gb168) (o := .cells #[.slice (some ad169) l0_0.length c0_0] 29 (0, 0)) (by (with_reducible repeat (first | refine blk_drewN ?_ _ | refine blk_drew ?_ | refine blk_alloc ?_ _)); exact BK168.out)) : gb168 ≠ gb177)); have n8_ := Aside0.mk ((by rw [hg]; exact Nat.ne_of_gt (blk_lt (g := gb168) (o := .cells #[.slice (some ad169) l0_0.length c0_0] 29 (0, 0)) (by (with_reducible repeat (first | refine blk_drewN ?_ _ | refine blk_drew ?_ | refine blk_alloc ?_ _)); exact BK168.out)) : gb177 ≠ gb168)); clear HO_5; clear HO_6; clear BK168; clear HB; have HO_5 := n0_; have HO_6 := n1_; have BK168 := n2_; have HB := n3_; have BK177 := n4_; have GW177 := n5_; have GE177 := n6_; have NB168_177 := n7_; have NB177_168 := n8_; clear n0_ n1_ n2_ n3_ n4_ n5_ n6_ n7_ n8_; clear hb hbox hg; have hnb19 := NB177_168.out; have hnc19 := NB168_177.out; obtain ⟨hcz20_0, hcz20_1, hcz20_2, hcz20_3, hcz20_4, hcz20_5, hcz20_6, hcz20_7, hcz20_8, hcz20_9, hfz20_0, hfz20_1, hfz20_2, hfz20_3, hfz20_4, hfz20_5, hfz20_6, hfz20_7, hfz20_8, hfz20_9⟩ := cf10 BK177.out))
          go_loopg [9] k1 (fun kq v9 w' => ∃ (x5_2 : List Int) (x6_2 : List Bool) (x9_2 : Int), v9 = .int .i64 x9_2 ∧ Aside0 (spec_l4Bytes.l1 kq x5_2 x6_2 x9_2 l0_0 (l0_0.length : Int) x26_1 ((rd_T46 l0_0 x26_1).f0) ((rd_T46 l0_0 x26_1).f1) ((rd_T46 l0_0 x26_1).f2) ((rd_T46 l0_0 x26_1).f3) ((rd_T46 l0_0 x26_1).f4) ((rd_T46 l0_0 x26_1).f5) ((rd_T46 l0_0 x26_1).f6) ((rd_T46 l0_0 x26_1).f7) ((rd_T46 l0_0 x26_1).f8) ((rd_T46 l0_0 x26_1).f9) = some (r1, r2)) ∧ Aside0 (kq ≤ k1) ∧ Aside0 (Kd.R (Kd.int .u8) 5 w' w.heap.size (fun _ => True) v171 x5_2) ∧ Aside0 (Kd.R Kd.bool 4 w' w.heap.size (fun _ => True) v174 x6_2) ∧ Aside0 (w'.heap[gb168]? = some (.cells #[(.slice (some ad169) l0_0.length c0_0)] 29 (0, 0))) ∧ Aside0 (w'.heap[gb177]? = some (.cells #[.int .i64 ((rd_T46 l0_0 x26_1).f0), .int .i64 ((rd_T46 l0_0 x26_1).f1), .bool ((rd_T46 l0_0 x26_1).f2), .int .i64 ((rd_T46 l0_0 x26_1).f3), .int .i64 ((rd_T46 l0_0 x26_1).f4), .int .i64 ((rd_T46 l0_0 x26_1).f5), .int .i64 ((rd_T46 l0_0 x26_1).f6), .int .i64 ((rd_T46 l0_0 x26_1).f7), .int .i64 ((rd_T46 l0_0 x26_1).f8), .string ((rd_T46 l0_0 x26_1).f9)] 46 (0, 0))) ∧ Aside0 (Below w.heap.size w w'))
          case atStart => exact ⟨(x5_1), (x6_1), (0), (by first | rfl | (simp; done) | (simp [*]; done)), H', ⟨Nat.le_refl _⟩, ⟨by (with_reducible repeat (first | apply Kd.R_alloc | apply Kd.R_drewN | apply Kd.R_drew)); exact Kd.R_mono (Kd.R_far (p := ⟨gb177, 9, none⟩) (Kd.R_far (p := ⟨gb177, 8, none⟩) (Kd.R_far (p := ⟨gb177, 7, none⟩) (Kd.R_far (p := ⟨gb177, 6, none⟩) (Kd.R_far (p := ⟨gb177, 5, none⟩) (Kd.R_far (p := ⟨gb177, 4, none⟩) (Kd.R_far (p := ⟨gb177, 3, none⟩) (Kd.R_far (p := ⟨gb177, 2, none⟩) (Kd.R_far (p := ⟨gb177, 1, none⟩) (Kd.R_far (p := ⟨gb177, 0, none⟩) (Kd.R_types HO_5.out BK177.out (by decide)) (fun _ hk => hk.2) (.int .i64 ((rd_T46 l0_0 x26_1).f0))) (fun _ hk => hk.2) (.int .i64 ((rd_T46 l0_0 x26_1).f1))) (fun _ hk => hk.2) (.bool ((rd_T46 l0_0 x26_1).f2))) (fun _ hk => hk.2) (.int .i64 ((rd_T46 l0_0 x26_1).f3))) (fun _ hk => hk.2) (.int .i64 ((rd_T46 l0_0 x26_1).f4))) (fun _ hk => hk.2) (.int .i64 ((rd_T46 l0_0 x26_1).f5))) (fun _ hk => hk.2) (.int .i64 ((rd_T46 l0_0 x26_1).f6))) (fun _ hk => hk.2) (.int .i64 ((rd_T46 l0_0 x26_1).f7))) (fun _ hk => hk.2) (.int .i64 ((rd_T46 l0_0 x26_1).f8))) (fun _ hk => hk.2) (.string ((rd_T46 l0_0 x26_1).f9))) (fun _ hk => trivial)⟩, ⟨by (with_reducible repeat (first | apply Kd.R_alloc | apply Kd.R_drewN | apply Kd.R_drew)); exact Kd.R_mono (Kd.R_far (p := ⟨gb177, 9, none⟩) (Kd.R_far (p := ⟨gb177, 8, none⟩) (Kd.R_far (p := ⟨gb177, 7, none⟩) (Kd.R_far (p := ⟨gb177, 6, none⟩) (Kd.R_far (p := ⟨gb177, 5, none⟩) (Kd.R_far (p := ⟨gb177, 4, none⟩) (Kd.R_far (p := ⟨gb177, 3, none⟩) (Kd.R_far (p := ⟨gb177, 2, none⟩) (Kd.R_far (p := ⟨gb177, 1, none⟩) (Kd.R_far (p := ⟨gb177, 0, none⟩) (Kd.R_types HO_6.out BK177.out (by decide)) (fun _ hk => hk.2) (.int .i64 ((rd_T46 l0_0 x26_1).f0))) (fun _ hk => hk.2) (.int .i64 ((rd_T46 l0_0 x26_1).f1))) (fun _ hk => hk.2) (.bool ((rd_T46 l0_0 x26_1).f2))) (fun _ hk => hk.2) (.int .i64 ((rd_T46 l0_0 x26_1).f3))) (fun _ hk => hk.2) (.int .i64 ((rd_T46 l0_0 x26_1).f4))) (fun _ hk => hk.2) (.int .i64 ((rd_T46 l0_0 x26_1).f5))) (fun _ hk => hk.2) (.int .i64 ((rd_T46 l0_0 x26_1).f6))) (fun _ hk => hk.2) (.int .i64 ((rd_T46 l0_0 x26_1).f7))) (fun _ hk => hk.2) (.int .i64 ((rd_T46 l0_0 x26_1).f8))) (fun _ hk => hk.2) (.string ((rd_T46 l0_0 x26_1).f9))) (fun _ hk => trivial)⟩, ⟨by (with_reducible repeat (first | refine blk_drewN ?_ _ | refine blk_drew ?_ | refine blk_alloc ?_ _)); (iterate 10 refine blk_far ?_ NB168_177.out _); (with_reducible repeat (first | refine blk_drewN ?_ _ | refine blk_drew ?_ | refine blk_alloc ?_ _)); exact BK168.out⟩, ⟨by (with_reducible repeat (first | refine blk_drewN ?_ _ | refine blk_drew ?_ | refine blk_alloc ?_ _)); exact bp10 BK177.out⟩, ⟨by repeat (first | (with_reducible first | exact HB.out | apply below_alloc | apply pw_below_drewN | apply below_drew1 | refine below_set ?_ GE168.out | refine below_set ?_ GE177.out) | exact HB.out | (with_reducible exact Below.refl _ _))⟩⟩
          case round =>
           clear H'; try clear c1
           try clear p1
           try clear q1
           try clear hx1
           try clear qi1
           try clear c2
           try clear c2b0
           try clear c2b1
           try clear c2b2
           try clear p2
           try clear c5
           try clear c5b0
           try clear c5b1
           try clear c6
           try clear c6b0
           try clear c6b1
           try clear c7
           try clear c7b0
           try clear c7b1
           try clear c15
           try clear c15b0
           try clear c16
           try clear c16b0
           try clear p16
           try clear q16
           try clear hx16
           try clear qi16
           try clear c17
           try clear c17b0
           try clear p17
           try clear q17
           try clear hx17
           try clear c19
           try clear hcz14_0
           try clear hcz20_0
           try clear hcz20_1
           try clear hcz20_2
           try clear hcz20_3
           try clear hcz20_4
           try clear hcz20_5
           try clear hcz20_6
           try clear hcz20_7
           try clear hcz20_8
           try clear hcz20_9
           try clear hcz4_0
           try clear hcz9_0
           try clear hfz14_0
           try clear hfz20_0
           try clear hfz20_1
           try clear hfz20_2
           try clear hfz20_3
           try clear hfz20_4
           try clear hfz20_5
           try clear hfz20_6
           try clear hfz20_7
           try clear hfz20_8
           try clear hfz20_9
           try clear hfz4_0
           try clear hfz9_0
           try clear hx169_0
           try clear hx169_1
           try clear hx169_2
           try clear hx169_3
           try clear hx169_4
           try clear hx169_5
           try clear hx169_6
           try clear hx169_7
           try clear hx169_8
           try clear hx169_9
           try clear hx176_0
           try clear hx176_1
           try clear hx176_2
           try clear hx176_3
           try clear hx176_4
           try clear hx176_5
           try clear hx176_6
           try clear hx176_7
           try clear hx176_8
           try clear hx176_9
           try clear p1
           try clear p169
           try clear p176
           try clear p2
           try clear q1
           try clear q169
           try clear q176
           obtain ⟨x5_2, x6_2, x9_2, rfl, HA, HK2, HO_5, HO_6, BK168, BK177, HB⟩ := hrel; cases gk with
           | zero => exact absurd HA.out (by simp [spec_l4Bytes.l1])
           | succ k2 =>
            have H := HA.out; clear HA; simp only [spec_l4Bytes.l1] at H; by_cases c21 : x9_2 < (((rd_T46 l0_0 x26_1).f9).size : Int)
            ·rw [if_pos c21] at H; have c21b0 : decide (x9_2 < (((rd_T46 l0_0 x26_1).f9).size : Int)) = true := decide_eq_true c21; clear c21; by_cases c22 : 0 ≤ x9_2
             ·rw [if_pos c22] at H; have c22b0 : decide (0 ≤ x9_2) = true := decide_eq_true c22; clear c22; obtain ⟨ji24, hji24⟩ : ∃ j_ : Int, (wrap64 (((rd_T46 l0_0 x26_1).f7) + x9_2)) = j_ := ⟨_, rfl⟩
              replace H : (if 0 ≤ (ji24) then (if (ji24) < (x5_2.length : Int) then (if (ji24) < (x6_2.length : Int) then (spec_l4Bytes.l1 k2 (x5_2.set ((ji24) : Int).toNat (bt ((rd_T46 l0_0 x26_1).f9) x9_2)) (x6_2.set ((ji24) : Int).toNat true) (wrap64 (x9_2 + 1)) l0_0 (l0_0.length : Int) x26_1 ((rd_T46 l0_0 x26_1).f0) ((rd_T46 l0_0 x26_1).f1) ((rd_T46 l0_0 x26_1).f2) ((rd_T46 l0_0 x26_1).f3) ((rd_T46 l0_0 x26_1).f4) ((rd_T46 l0_0 x26_1).f5) ((rd_T46 l0_0 x26_1).f6) ((rd_T46 l0_0 x26_1).f7) ((rd_T46 l0_0 x26_1).f8) ((rd_T46 l0_0 x26_1).f9)) else (none)) else (none)) else (none)) = some (r1, r2) := by first | (rw [hji24] at H; exact H) | (simp only [hji24] at H ⊢; exact H)
              have hji24w : (IntKind.i64.wrap (((rd_T46 l0_0 x26_1).f7) + x9_2)) = ji24 := (i64_w _).trans hji24; by_cases c25 : 0 ≤ (ji24)
              ·rw [if_pos c25] at H; have c25b0 : decide (0 ≤ (ji24)) = true := decide_eq_true c25; clear c25; by_cases c26 : (ji24) < (x5_2.length : Int)
               ·rw [if_pos c26] at H; have c26b0 : decide ((ji24) < (x5_2.length : Int)) = true := decide_eq_true c26; clear c26; obtain ⟨y178, hy178⟩ : ∃ y_ : List Int, y_ = (x5_2.set ((ji24) : Int).toNat (bt ((rd_T46 l0_0 x26_1).f9) x9_2)) := ⟨_, rfl⟩
                replace H : (if (ji24) < (x6_2.length : Int) then (spec_l4Bytes.l1 k2 y178 (x6_2.set ((ji24) : Int).toNat true) (wrap64 (x9_2 + 1)) l0_0 (l0_0.length : Int) x26_1 ((rd_T46 l0_0 x26_1).f0) ((rd_T46 l0_0 x26_1).f1) ((rd_T46 l0_0 x26_1).f2) ((rd_T46 l0_0 x26_1).f3) ((rd_T46 l0_0 x26_1).f4) ((rd_T46 l0_0 x26_1).f5) ((rd_T46 l0_0 x26_1).f6) ((rd_T46 l0_0 x26_1).f7) ((rd_T46 l0_0 x26_1).f8) ((rd_T46 l0_0 x26_1).f9)) else (none)) = some (r1, r2) := by first | (rw [hy178]; with_reducible exact H) | (have H2_ := (Option.bind_some _ _).symm.trans H; rw [hy178]; with_reducible exact H2_) | (have H2_ := (Option.bind_some _ _).symm.trans H; with_reducible exact H2_) | with_reducible exact H | (rw [hy178]; exact H) | exact H
                have Ny178 := Aside0.mk hy178; clear hy178; by_cases c28 : (ji24) < (x6_2.length : Int)
                ·rw [if_pos c28] at H; have c28b0 : decide ((ji24) < (x6_2.length : Int)) = true := decide_eq_true c28; clear c28; obtain ⟨y179, hy179⟩ : ∃ y_ : List Bool, y_ = (x6_2.set ((ji24) : Int).toNat true) := ⟨_, rfl⟩
                 replace H : (spec_l4Bytes.l1 k2 y178 y179 (wrap64 (x9_2 + 1)) l0_0 (l0_0.length : Int) x26_1 ((rd_T46 l0_0 x26_1).f0) ((rd_T46 l0_0 x26_1).f1) ((rd_T46 l0_0 x26_1).f2) ((rd_T46 l0_0 x26_1).f3) ((rd_T46 l0_0 x26_1).f4) ((rd_T46 l0_0 x26_1).f5) ((rd_T46 l0_0 x26_1).f6) ((rd_T46 l0_0 x26_1).f7) ((rd_T46 l0_0 x26_1).f8) ((rd_T46 l0_0 x26_1).f9)) = some (r1, r2) := by first | (rw [hy179]; with_reducible exact H) | (have H2_ := (Option.bind_some _ _).symm.trans H; rw [hy179]; with_reducible exact H2_) | (have H2_ := (Option.bind_some _ _).symm.trans H; with_reducible exact H2_) | with_reducible exact H | (rw [hy179]; exact H) | exact H
                 have Ny179 := Aside0.mk hy179; clear hy179; have H' := Aside0.mk H; clear H; have hnb30 := NB177_168.out; have hnc30 := NB168_177.out; obtain ⟨hcz31_0, hcz31_1, hcz31_2, hcz31_3, hcz31_4, hcz31_5, hcz31_6, hcz31_7, hcz31_8, hcz31_9, hfz31_0, hfz31_1, hfz31_2, hfz31_3, hfz31_4, hfz31_5, hfz31_6, hfz31_7, hfz31_8, hfz31_9⟩ := cf10 BK177.out; try go_wp2
                 have n0_ := Aside0.mk (Kd.R_drew HO_5.out); have n1_ := Aside0.mk (Kd.R_drew HO_6.out); have n2_ := Aside0.mk (blk_drew BK168.out); have n3_ := Aside0.mk (blk_drew BK177.out); have n4_ := Aside0.mk (below_drew1 HB.out); clear HO_5; clear HO_6; clear BK168; clear BK177; clear HB; have HO_5 := n0_; have HO_6 := n1_; have BK168 := n2_; have BK177 := n3_; have HB := n4_; clear n0_ n1_ n2_ n3_ n4_; have p23 : 0 ≤ (x9_2 : Int) := of_decide_eq_true (by first | (with_reducible assumption) | assumption); have q23 : x9_2 < (((rd_T46 l0_0 x26_1).f9).size : Int) := of_decide_eq_true (by first | (with_reducible assumption) | assumption); have hx23 := bt_at ((rd_T46 l0_0 x26_1).f9) x9_2; replace p23 := eq_true p23; replace q23 := eq_true q23; have p27 : 0 ≤ ((ji24) : Int) := of_decide_eq_true (by first | (with_reducible assumption) | assumption); have q27 : ((ji24) : Int) < ((x5_2.length : Int) : Int) := of_decide_eq_true (by first | (with_reducible assumption) | assumption); obtain ⟨go27, co27, eo27, gb27, gl27, cl27, HG27⟩ := Kd.R_form HO_5.out (by omega); (first | cases eo27 | (injection eo27 with ea_ en_ ec_; (first | subst ea_ | (injection ea_ with ea_; subst ea_)); subst ec_; clear en_)); have GB27 := Aside0.mk gb27; have GG27 := Aside0.mk HG27; clear gb27 gl27 HG27; obtain ⟨hx27_0, hf27_0⟩ := Kd.R_celln 0 (HO_5.out) ((ji24) : Int) p27 q27; replace p27 := eq_true p27; replace q27 := eq_true q27; have HP33 := Kd.R_putn HO_5.out ((ji24) : Int) (bt ((rd_T46 l0_0 x26_1).f9) x9_2); rw [← Ny178.out] at HP33; have HQ33 := Aside0.mk HP33; clear HP33; refine start_ (n := 11) (S := fun w' => w'.cell? ⟨gb177, 0, none⟩ = some (.int .i64 ((rd_T46 l0_0 x26_1).f0)) ∧ w'.cell? ⟨gb177, 1, none⟩ = some (.int .i64 ((rd_T46 l0_0 x26_1).f1)) ∧ w'.cell? ⟨gb177, 2, none⟩ = some (.bool ((rd_T46 l0_0 x26_1).f2)) ∧ w'.cell? ⟨gb177, 3, none⟩ = some (.int .i64 ((rd_T46 l0_0 x26_1).f3)) ∧ w'.cell? ⟨gb177, 4, none⟩ = some (.int .i64 ((rd_T46 l0_0 x26_1).f4)) ∧ w'.cell? ⟨gb177, 5, none⟩ = some (.int .i64 ((rd_T46 l0_0 x26_1).f5)) ∧ w'.cell? ⟨gb177, 6, none⟩ = some (.int .i64 ((rd_T46 l0_0 x26_1).f6)) ∧ w'.cell? ⟨gb177, 7, none⟩ = some (.int .i64 ((rd_T46 l0_0 x26_1).f7)) ∧ w'.cell? ⟨gb177, 8, none⟩ = some (.int .i64 ((rd_T46 l0_0 x26_1).f8)) ∧ w'.cell? ⟨gb177, 9, none⟩ = some (.string ((rd_T46 l0_0 x26_1).f9))) (ds := [10]) #[false, false, false, false, false, false, false, false, false, false, false] (by kernel_rfl) rfl rfl ⟨(blk_cell BK177.out 0).trans rfl, (blk_cell BK177.out 1).trans rfl, (blk_cell BK177.out 2).trans rfl, (blk_cell BK177.out 3).trans rfl, (blk_cell BK177.out 4).trans rfl, (blk_cell BK177.out 5).trans rfl, (blk_cell BK177.out 6).trans rfl, (blk_cell BK177.out 7).trans rfl, (blk_cell BK177.out 8).trans rfl, (blk_cell BK177.out 9).trans rfl⟩ (fun hHeld => ?_); refine with_tabW spec_l4Bytes.tab12 spec_l4Bytes.bits12 (fun HT_ HW_ => ?_); generalize wr.drew = w32 at HO_5 HO_6 BK168 BK177 HB GG27 HQ33 hf27_0 hx27_0 hHeld ⊢; refine pure_ (i := 0) (N := some 37) (v := ?_) (a' := ?_) #[true, false, false, false, false, false, false, false, false, false, false] rfl rfl (any_of HT_.out (by kernel_rfl)) (fun _ _ _ h => h) (Or.inl ⟨by rfl, ?_⟩) ?_ ?_; rotate_left
                 ·intro w'; go_simp; with_reducible rfl
                 rotate_left
                 ·simp only [Act.put, List.setIfInBounds_toArray, List.set_cons_zero, List.set_cons_succ, i64_w, i32_w]; rfl
                 refine pure_ (i := 1) (N := some 38) (v := ?_) (a' := ?_) #[true, true, false, false, false, false, false, false, false, false, false] rfl rfl (any_of HT_.out (by kernel_rfl)) (fun _ _ _ h => h) (Or.inl ⟨by rfl, ?_⟩) ?_ ?_; rotate_left
                 ·intro w'; go_simp; with_reducible rfl
                 rotate_left
                 ·simp only [Act.put, List.setIfInBounds_toArray, List.set_cons_zero, List.set_cons_succ, i64_w, i32_w]; rfl
                 refine pure_ (i := 3) (N := some 40) (v := ?_) (a' := ?_) #[true, true, false, true, false, false, false, false, false, false, false] rfl rfl (any_of HT_.out (by kernel_rfl)) (fun _ _ _ h => h) (Or.inl ⟨by rfl, ?_⟩) ?_ ?_; rotate_left
                 ·intro w'; go_simp; with_reducible rfl
                 rotate_left
                 ·simp only [Act.put, List.setIfInBounds_toArray, List.set_cons_zero, List.set_cons_succ, i64_w, i32_w]; rfl
                 refine pure_ (i := 5) (N := some 42) (v := ?_) (a' := ?_) #[true, true, false, true, false, true, false, false, false, false, false] rfl rfl (any_of HT_.out (by kernel_rfl)) (fun _ _ _ h => h) (Or.inl ⟨by rfl, ?_⟩) ?_ ?_; rotate_left
                 ·intro w'; go_simp; with_reducible rfl
                 rotate_left
                 ·simp only [Act.put, List.setIfInBounds_toArray, List.set_cons_zero, List.set_cons_succ, i64_w, i32_w]; rfl
                 refine pure_ (i := 7) (N := some 44) (v := ?_) (a' := ?_) #[true, true, false, true, false, true, false, true, false, false, false] rfl rfl (any_of HT_.out (by kernel_rfl)) (fun _ _ _ h => h) (Or.inl ⟨by rfl, ?_⟩) ?_ ?_; rotate_left
                 ·intro w'; go_simp; with_reducible rfl
                 rotate_left
                 ·simp only [Act.put, List.setIfInBounds_toArray, List.set_cons_zero, List.set_cons_succ, i64_w, i32_w]; rfl
                 refine take_ (i := 2) (N := some 39) (v := ?_) (a' := ?_) #[true, true, true, true, false, true, false, true, false, false, false] rfl rfl (take_ofW HT_.out HW_.out (by kernel_rfl)) (fun _ _ _ h => h) (Or.inl ⟨by rfl, ?_⟩) hHeld ?_ ?_; rotate_left
                 ·rintro w' ⟨s0, s1, s2, s3, s4, s5, s6, s7, s8, s9⟩
                  go_simp; with_reducible rfl
                 rotate_left
                 ·simp only [Act.put, List.setIfInBounds_toArray, List.set_cons_zero, List.set_cons_succ, i64_w, i32_w]; rfl
                 refine pure_ (i := 4) (N := some 41) (v := ?_) (a' := ?_) #[true, true, true, true, true, true, false, true, false, false, false] rfl rfl (any_of HT_.out (by kernel_rfl)) (fun _ _ _ h => h) (Or.inl ⟨by rfl, ?_⟩) ?_ ?_; rotate_left
                 ·intro w'; go_simp; with_reducible rfl
                 rotate_left
                 ·simp only [Act.put, List.setIfInBounds_toArray, List.set_cons_zero, List.set_cons_succ, i64_w, i32_w]; rfl
                 refine take_ (i := 6) (N := some 43) (v := ?_) (a' := ?_) #[true, true, true, true, true, true, true, true, false, false, false] rfl rfl (take_ofW HT_.out HW_.out (by kernel_rfl)) (fun _ _ _ h => h) (Or.inl ⟨by rfl, ?_⟩) hHeld ?_ ?_; rotate_left
                 ·rintro w' ⟨s0, s1, s2, s3, s4, s5, s6, s7, s8, s9⟩
                  go_simp; with_reducible rfl
                 rotate_left
                 ·simp only [Act.put, List.setIfInBounds_toArray, List.set_cons_zero, List.set_cons_succ, i64_w, i32_w]; rfl
                 refine take_ (i := 8) (N := some 45) (v := ?_) (a' := ?_) #[true, true, true, true, true, true, true, true, true, false, false] rfl rfl (take_ofW HT_.out HW_.out (by kernel_rfl)) (fun _ _ _ h => h) (Or.inl ⟨by rfl, ?_⟩) hHeld ?_ ?_; rotate_left
                 ·rintro w' ⟨s0, s1, s2, s3, s4, s5, s6, s7, s8, s9⟩
                  go_simp; with_reducible rfl
                 rotate_left
                 ·simp only [Act.put, List.setIfInBounds_toArray, List.set_cons_zero, List.set_cons_succ, i64_w, i32_w]; rfl
                 refine pure_ (i := 9) (N := some 46) (v := ?_) (a' := ?_) #[true, true, true, true, true, true, true, true, true, true, false] rfl rfl (any_of HT_.out (by kernel_rfl)) (fun _ _ _ h => h) (Or.inl ⟨by rfl, ?_⟩) ?_ ?_; rotate_left
                 ·intro w'; go_simp; with_reducible rfl
                 rotate_left
                 ·simp only [Act.put, List.setIfInBounds_toArray, List.set_cons_zero, List.set_cons_succ, i64_w, i32_w]; rfl
                 refine last_ (i := 10) (N := none) #[true, true, true, true, true, true, true, true, true, true, true] rfl rfl (one_of HT_.out (by kernel_rfl)) (by decide) (fun K hK => ?_); refine skip_ (w1 := ?_) ?_ ?_ ?_ ?_; rotate_left
                 ·kernel_rfl
                 ·rfl
                 ·go_simp; rfl
                 refine hK.out _ _ ?_; clear hK K; refine done_ (done_of HT_.out (by kernel_rfl)) ?_; have n0_ : Aside0 (Kd.R (Kd.int .u8) 5 (w32.setCell ⟨go27, ((ji24) : Int).toNat, none⟩ (.int .u8 (bt ((rd_T46 l0_0 x26_1).f9) x9_2))) w.heap.size (fun _ => True) (.slice (some ⟨go27, 0, none⟩) x5_2.length co27) y178) := ⟨by (with_reducible repeat (first | apply Kd.R_alloc | apply Kd.R_drewN | apply Kd.R_drew)); exact HQ33.out⟩
                 have n1_ : Aside0 (Kd.R Kd.bool 4 (w32.setCell ⟨go27, ((ji24) : Int).toNat, none⟩ (.int .u8 (bt ((rd_T46 l0_0 x26_1).f9) x9_2))) w.heap.size (fun _ => True) v174 x6_2) := ⟨by (with_reducible repeat (first | apply Kd.R_alloc | apply Kd.R_drewN | apply Kd.R_drew)); exact Kd.R_mono (Kd.R_far (p := ⟨go27, ((ji24) : Int).toNat, none⟩) (Kd.R_types HO_6.out GG27.out (by decide)) (fun _ hk => hk.2) (.int .u8 (bt ((rd_T46 l0_0 x26_1).f9) x9_2))) (fun _ hk => trivial)⟩
                 have n2_ : Aside0 ((w32.setCell ⟨go27, ((ji24) : Int).toNat, none⟩ (.int .u8 (bt ((rd_T46 l0_0 x26_1).f9) x9_2))).heap[gb168]? = some (.cells #[.slice (some ad169) l0_0.length c0_0] 29 (0, 0))) := ⟨by (with_reducible repeat (first | refine blk_drewN ?_ _ | refine blk_drew ?_ | refine blk_alloc ?_ _)); refine blk_far ?_ (by have h_ := Kd.R_ne HO_5.out BK168.out (by decide); intro e_; exact h_ (by rw [e_]; rfl)) _; (with_reducible repeat (first | refine blk_drewN ?_ _ | refine blk_drew ?_ | refine blk_alloc ?_ _)); exact BK168.out⟩
                 have n3_ : Aside0 ((w32.setCell ⟨go27, ((ji24) : Int).toNat, none⟩ (.int .u8 (bt ((rd_T46 l0_0 x26_1).f9) x9_2))).heap[gb177]? = some (.cells #[.int .i64 ((rd_T46 l0_0 x26_1).f0), .int .i64 ((rd_T46 l0_0 x26_1).f1), .bool ((rd_T46 l0_0 x26_1).f2), .int .i64 ((rd_T46 l0_0 x26_1).f3), .int .i64 ((rd_T46 l0_0 x26_1).f4), .int .i64 ((rd_T46 l0_0 x26_1).f5), .int .i64 ((rd_T46 l0_0 x26_1).f6), .int .i64 ((rd_T46 l0_0 x26_1).f7), .int .i64 ((rd_T46 l0_0 x26_1).f8), .string ((rd_T46 l0_0 x26_1).f9)] 46 (0, 0))) := ⟨by (with_reducible repeat (first | refine blk_drewN ?_ _ | refine blk_drew ?_ | refine blk_alloc ?_ _)); refine blk_far ?_ (by have h_ := Kd.R_ne HO_5.out BK177.out (by decide); intro e_; exact h_ (by rw [e_]; rfl)) _; (with_reducible repeat (first | refine blk_drewN ?_ _ | refine blk_drew ?_ | refine blk_alloc ?_ _)); exact BK177.out⟩
                 have n4_ : Aside0 (Below w.heap.size w (w32.setCell ⟨go27, ((ji24) : Int).toNat, none⟩ (.int .u8 (bt ((rd_T46 l0_0 x26_1).f9) x9_2)))) := ⟨by repeat (first | (with_reducible first | exact HB.out | apply below_alloc | apply pw_below_drewN | apply below_drew1 | refine below_set ?_ GB27.out | refine below_set ?_ GE168.out | refine below_set ?_ GE177.out) | exact HB.out | (with_reducible exact Below.refl _ _))⟩
                 (try clear HO_5); (try clear HO_6); (try clear BK168); (try clear BK177); (try clear HB); generalize (w32.setCell ⟨go27, ((ji24) : Int).toNat, none⟩ (.int .u8 (bt ((rd_T46 l0_0 x26_1).f9) x9_2))) = w34 at n0_ n1_ n2_ n3_ n4_ ⊢; have HO_5 := n0_; have HO_6 := n1_; have BK168 := n2_; have BK177 := n3_; have HB := n4_; clear n0_ n1_ n2_ n3_ n4_; obtain ⟨hcz35_0, hcz35_1, hcz35_2, hcz35_3, hcz35_4, hcz35_5, hcz35_6, hcz35_7, hcz35_8, hcz35_9, hfz35_0, hfz35_1, hfz35_2, hfz35_3, hfz35_4, hfz35_5, hfz35_6, hfz35_7, hfz35_8, hfz35_9⟩ := cf10 BK177.out; have p29 : 0 ≤ ((ji24) : Int) := of_decide_eq_true (by first | (with_reducible assumption) | assumption); have q29 : ((ji24) : Int) < ((x6_2.length : Int) : Int) := of_decide_eq_true (by first | (with_reducible assumption) | assumption); obtain ⟨go29, co29, eo29, gb29, gl29, cl29, HG29⟩ := Kd.R_form HO_6.out (by omega); (first | cases eo29 | (injection eo29 with ea_ en_ ec_; (first | subst ea_ | (injection ea_ with ea_; subst ea_)); subst ec_; clear en_)); have GB29 := Aside0.mk gb29; have GG29 := Aside0.mk HG29; clear gb29 gl29 HG29; obtain ⟨hx29_0, hf29_0⟩ := Kd.R_celln false (HO_6.out) ((ji24) : Int) p29 q29; replace p29 := eq_true p29; replace q29 := eq_true q29; obtain ⟨hy36_, hz36_⟩ := Kd.R_celln false HO_6.out ((ji24) : Int) (of_decide_eq_true (by first | (with_reducible assumption) | assumption)) (of_decide_eq_true (by first | (with_reducible assumption) | assumption)); have HP36 := Kd.R_putg HO_6.out ((ji24) : Int) true; try go_wp2_with (first | ((with_reducible refine gate_store (t := 4) (p := 52) rfl ?_); refine store_event (t := 4) (p := 52) (v := ?vo_w37) (w1 := (w34.setCell ⟨go29, ((ji24) : Int).toNat, none⟩ (.bool true))) ?hg ?ho ?hn ?hr ?_; (case ho => rfl); (case hg => rfl); (case hn => rfl); (case hr => first | (go_simp; done) | (go_simp; rfl)); intro w37 hw; have hg : w34.grownBy w37 (some go29) := (by rw [hw]; exact HP36.2); have hp_ : Kd.R Kd.bool 4 w37 w.heap.size (fun _ => True) (.slice (some ⟨go29, 0, none⟩) x6_2.length co29) y179 := (by rw [hw, Ny179.out]; exact HP36.1); clear HP36; have n0_ := Aside0.mk (Kd.R_over' (v := (.slice (some ⟨go29, 0, none⟩) x6_2.length co29)) (by (with_reducible repeat (first | apply Kd.R_alloc | apply Kd.R_drewN | apply Kd.R_drew)); exact HO_5.out) (Kd.R_typed HO_6.out) (by decide) hg); have n1_ := Aside0.mk (hp_); have n2_ := Aside0.mk (blk_grown (g := gb168) (o := .cells #[.slice (some ad169) l0_0.length c0_0] 29 (0, 0)) (by (with_reducible repeat (first | refine blk_drewN ?_ _ | refine blk_drew ?_ | refine blk_alloc ?_ _)); exact BK168.out) hg (Kd.R_ne HO_6.out BK168.out (by decide))); have n3_ := Aside0.mk (blk_grown (g := gb177) (o := .cells #[.int .i64 ((rd_T46 l0_0 x26_1).f0), .int .i64 ((rd_T46 l0_0 x26_1).f1), .bool ((rd_T46 l0_0 x26_1).f2), .int .i64 ((rd_T46 l0_0 x26_1).f3), .int .i64 ((rd_T46 l0_0 x26_1).f4), .int .i64 ((rd_T46 l0_0 x26_1).f5), .int .i64 ((rd_T46 l0_0 x26_1).f6), .int .i64 ((rd_T46 l0_0 x26_1).f7), .int .i64 ((rd_T46 l0_0 x26_1).f8), .string ((rd_T46 l0_0 x26_1).f9)] 46 (0, 0)) (by (with_reducible repeat (first | refine blk_drewN ?_ _ | refine blk_drew ?_ | refine blk_alloc ?_ _)); exact BK177.out) hg (Kd.R_ne HO_6.out BK177.out (by decide))); have n4_ := Aside0.mk ((by rw [hw]; exact below_set (HB.out) GB29.out : Below w.heap.size w w37)); clear HO_5; clear HO_6; clear BK168; clear BK177; clear HB; have HO_5 := n0_; have HO_6 := n1_; have BK168 := n2_; have BK177 := n3_; have HB := n4_; clear n0_ n1_ n2_ n3_ n4_; clear hg hw hp_))
                 go_roundg k2
                 case measure => have := HK1.out; have := HK2.out; omega
                 case rel => exact ⟨(y178), (y179), (wrap64 (x9_2 + 1)), (by first | rfl | (simp; done) | (simp [*]; done)), H', ⟨by have := HK1.out; have := HK2.out; omega⟩, ⟨by (with_reducible repeat (first | apply Kd.R_alloc | apply Kd.R_drewN | apply Kd.R_drew)); exact HO_5.out⟩, ⟨by (with_reducible repeat (first | apply Kd.R_alloc | apply Kd.R_drewN | apply Kd.R_drew)); exact HO_6.out⟩, ⟨by (with_reducible repeat (first | refine blk_drewN ?_ _ | refine blk_drew ?_ | refine blk_alloc ?_ _)); exact BK168.out⟩, ⟨by (with_reducible repeat (first | refine blk_drewN ?_ _ | refine blk_drew ?_ | refine blk_alloc ?_ _)); exact BK177.out⟩, ⟨by repeat (first | (with_reducible first | exact HB.out | apply below_alloc | apply pw_below_drewN | apply below_drew1 | refine below_set ?_ GE168.out | refine below_set ?_ GE177.out) | exact HB.out | (with_reducible exact Below.refl _ _))⟩⟩
                ·rw [if_neg c28] at H; exact absurd H (by simp)
               ·rw [if_neg c26] at H; exact absurd H (by simp)
              ·rw [if_neg c25] at H; exact absurd H (by simp)
             ·rw [if_neg c22] at H; exact absurd H (by simp)
            ·rw [if_neg c21] at H; have c21b0 : decide (x9_2 < (((rd_T46 l0_0 x26_1).f9).size : Int)) = false := decide_eq_false c21; clear c21; have H' := Aside0.mk H; clear H; have hnb38 := NB177_168.out; have hnc38 := NB168_177.out; obtain ⟨hcz39_0, hcz39_1, hcz39_2, hcz39_3, hcz39_4, hcz39_5, hcz39_6, hcz39_7, hcz39_8, hcz39_9, hfz39_0, hfz39_1, hfz39_2, hfz39_3, hfz39_4, hfz39_5, hfz39_6, hfz39_7, hfz39_8, hfz39_9⟩ := cf10 BK177.out; go_wp2; go_roundg k2
             case measure => have := HK1.out; have := HK2.out; omega
             case rel => exact ⟨(x5_2), (x6_2), (wrap64 (x26_1 + 1)), (by first | rfl | (simp; done) | (simp [*]; done)), H', ⟨by have := HK1.out; have := HK2.out; omega⟩, ⟨by (with_reducible repeat (first | apply Kd.R_alloc | apply Kd.R_drewN | apply Kd.R_drew)); exact HO_5.out⟩, ⟨by (with_reducible repeat (first | apply Kd.R_alloc | apply Kd.R_drewN | apply Kd.R_drew)); exact HO_6.out⟩, ⟨by (with_reducible repeat (first | refine blk_drewN ?_ _ | refine blk_drew ?_ | refine blk_alloc ?_ _)); exact BK168.out⟩, ⟨by repeat (first | (with_reducible first | exact HB.out | apply below_alloc | apply pw_below_drewN | apply below_drew1 | refine below_set ?_ GE168.out | refine below_set ?_ GE177.out) | exact HB.out | (with_reducible exact Below.refl _ _))⟩⟩
         ·rw [if_neg c17] at H; exact absurd H (by simp)
        ·rw [if_neg c16] at H; exact absurd H (by simp)
       ·rw [if_neg c15] at H; have c15b0 : decide (x26_1 < (l0_0.length : Int)) = false := decide_eq_false c15; clear c15; simp only [Option.some.injEq, Prod.mk.injEq] at H; obtain ⟨rfl, rfl⟩ := H; go_wp2; go_ret2; exact ⟨_, _, by first | rfl | (simp [errW_none, errW_some] <;> rfl) | (simp [*, errW_none, errW_some] <;> rfl), by (with_reducible repeat (first | apply Kd.R_alloc | apply Kd.R_drewN | apply Kd.R_drew)); exact HO_5.out, by (with_reducible repeat (first | apply Kd.R_alloc | apply Kd.R_drewN | apply Kd.R_drew)); exact HO_6.out, by repeat (first | (with_reducible first | exact HB.out | apply below_alloc | apply pw_below_drewN | apply below_drew1 | refine below_set ?_ GE168.out) | exact HB.out | (with_reducible exact Below.refl _ _))⟩
    ·rw [if_neg c7] at H; exact absurd H (by simp)
   ·rw [if_neg c6] at H; exact absurd H (by simp)
  ·rw [if_neg c5] at H; exact absurd H (by simp)
def spec_Covered.l0 : Nat → List Int → List Bool → Int → Int → Option (List Int × Bool)
 | 0, _, _, _, _ => none
 | k + 1, x6, x17, x18, x19 => if x19 < x18 then (if 0 ≤ x19 then (if x19 < (x17.length : Int) then (if rdOf false x17 x19 = true then (if x6.length < 17592186044416 then (spec_Covered.l0 k (x6 ++ [x19]) x17 x18 (wrap64 (x19 + 1))) else (none)) else (spec_Covered.l0 k x6 x17 x18 (wrap64 (x19 + 1)))) else (none)) else (none)) else (some (x6, true))
def spec_Covered.f (k : Nat) (l0_0 : List (S46)) : Option (List Int × Bool) := (spec_GoodPile.f k l0_0).bind fun t181 => (if t181 = true then ((spec_l4Bytes.f k l0_0).bind fun bt182 => (spec_Covered.l0 k ([] : List Int) bt182.2 (bt182.2.length : Int) 0)) else (some (([] : List Int), false)))
theorem spec_Covered.mono_l : ∀ k, (∀ y0 y1 y2 y3, LeO (spec_Covered.l0 k y0 y1 y2 y3) (spec_Covered.l0 (k + 1) y0 y1 y2 y3))
 | 0 => fun _ _ _ _ r h => by simp [spec_Covered.l0] at h
 | k + 1 => by
  have ih0 := spec_Covered.mono_l k
  ·intro y0 y1 y2 y3; unfold spec_Covered.l0
   repeat' first
   | (with_reducible exact ih0 _ _ _ _)
   | (with_reducible exact spec_GoodPile.mono _ _)
   | (with_reducible exact spec_l4Bytes.mono _ _)
   | (with_reducible exact LeO.refl _)
   | (with_reducible exact LeO.none _)
   | (with_reducible refine LeO.ite ?_ ?_)
   | (with_reducible refine LeO.bind ?_ (fun _ => ?_))
   | exact ih0 _ _ _ _
   | exact spec_GoodPile.mono _ _
   | exact spec_l4Bytes.mono _ _
   | exact LeO.none _
   | refine LeO.ite ?_ ?_
   | refine LeO.bind ?_ (fun _ => ?_)
theorem spec_Covered.mono : ∀ a0 k, LeO (spec_Covered.f k a0) (spec_Covered.f (k + 1) a0) := by
 intro a0 k; have ih0 := spec_Covered.mono_l k; unfold spec_Covered.f
 repeat' first
   | (with_reducible exact ih0 _ _ _ _)
   | (with_reducible exact spec_GoodPile.mono _ _)
   | (with_reducible exact spec_l4Bytes.mono _ _)
   | (with_reducible exact LeO.refl _)
   | (with_reducible exact LeO.none _)
   | (with_reducible refine LeO.ite ?_ ?_)
   | (with_reducible refine LeO.bind ?_ (fun _ => ?_))
   | exact ih0 _ _ _ _
   | exact spec_GoodPile.mono _ _
   | exact spec_l4Bytes.mono _ _
   | exact LeO.none _
   | refine LeO.ite ?_ ?_
   | refine LeO.bind ?_ (fun _ => ?_)
set_option maxHeartbeats 8000000 in
set_option maxRecDepth 100000 in
theorem spec_Covered.calls (k : Nat) (A0_0 : Option Addr) (c0_0 : Nat) (l0_0 : List (S46)) (r1 : List Int) (r2 : Bool) (w : World) (hr0_0 : Kd.C k46 w A0_0 l0_0.length l0_0) (hc0_0 : l0_0.length ≤ c0_0) (h : spec_Covered.f k l0_0 = some (r1, r2)) :
  Calls Try.prog 15 #[.agg #[.slice A0_0 l0_0.length c0_0]] w fun e w' => ∃ v0_ : Value, e = .returned (.tuple #[v0_, .bool r2]) ∧ Kd.R (Kd.int .i64) 3 w' w.heap.size (fun _ => True) v0_ r1 ∧ Below w.heap.size w w' := by
 have hu29 := Try.underlying29; have HR0_0 := Aside0.mk hr0_0; have HC0_0 := Aside0.mk hc0_0; clear hr0_0 hc0_0; have HB := Aside0.mk (Below.refl w.heap.size w); have H : ((spec_GoodPile.f k l0_0).bind fun t181 => (if t181 = true then ((spec_l4Bytes.f k l0_0).bind fun bt182 => (spec_Covered.l0 k ([] : List Int) bt182.2 (bt182.2.length : Int) 0)) else (some (([] : List Int), false)))) = some (r1, r2) := h; clear h; replace H := Option.bind_eq_some_iff.mp H; obtain ⟨t181, A20, H⟩ := H; replace H : (if t181 = true then ((spec_l4Bytes.f k l0_0).bind fun bt182 => (spec_Covered.l0 k ([] : List Int) bt182.2 (bt182.2.length : Int) 0)) else (some (([] : List Int), false))) = some (r1, r2) := H; have A2 := Aside0.mk A20; clear A20; by_cases c3 : t181 = true
 ·subst c3; have H1 : ((spec_l4Bytes.f k l0_0).bind fun bt182 => (spec_Covered.l0 k ([] : List Int) bt182.2 (bt182.2.length : Int) 0)) = some (r1, r2) := by rw [if_pos rfl] at H; exact H
  clear H; have H := H1; clear H1; replace H := Option.bind_eq_some_iff.mp H; obtain ⟨⟨t182, t185⟩, A40, H⟩ := H; replace H : (spec_Covered.l0 k ([] : List Int) t185 (t185.length : Int) 0) = some (r1, r2) := H; have A4 := Aside0.mk A40; clear A40; have H' := Aside0.mk H; clear H
  go_enter Try.func15, Try.ntmps15
  go_wp2_with (first | ((with_reducible refine gate_dst (N := 1) rfl ?_); refine box_event ?hg (N := 1) ?hd (cs := #[.slice A0_0 l0_0.length c0_0]) (t := 29) ?hr ?_; (case hd => rfl); (case hg => rfl); (case hr => first | (go_simp; done) | (go_simp; rfl)); intro gb180 hg w5 hbox hb; have n0_ := Aside0.mk (bs_ hb); have n1_ := Aside0.mk (hbox); have n2_ := Aside0.mk ((by rw [hg]; exact bz_ : w.heap.size ≤ gb180)); have n3_ := Aside0.mk ((by rw [hg]; exact bz_ : w.heap.size ≤ gb180)); clear HB; have HB := n0_; have BK180 := n1_; have GW180 := n2_; have GE180 := n3_; clear n0_ n1_ n2_ n3_; clear hb hbox hg; have hcz6_0 : w5.cell? ⟨gb180, 0, none⟩ = some (.slice A0_0 l0_0.length c0_0) := (blk_cell BK180.out 0).trans rfl; have hfz6_0 := blk_frozen BK180.out 0) | ((with_reducible refine gate_callee (f := 11) rfl ?_); refine goesL_ (some 10) rfl rfl Try.func11 (by kernel_rfl) rfl #[.agg #[.slice A0_0 l0_0.length c0_0]] rfl (by (try simp only [List.map_toArray, List.map_cons, List.map_nil]); first | done | rfl | (simp only [List.length_drop, List.length_take]; rfl)) ?_; (with_reducible refine (spec_GoodPile.calls k _ _ l0_0 true _ ?side1 ?side2 A2.out).mono ?_); (case side1 => repeat (first | exact (Kd.C_below HR0_0.out HB.out) | with_reducible first | refine Kd.C_alloc ?_ _ | refine Kd.C_drewN ?_ _ | refine Kd.C_drew ?_)); (case side2 => exact HC0_0.out); rintro e w7 ⟨rfl, hb⟩; refine ⟨_, rfl, ?_⟩; have n0_ := Aside0.mk (blk_below (g := gb180) (o := .cells #[.slice A0_0 l0_0.length c0_0] 29 (0, 0)) (by (with_reducible repeat (first | refine blk_drewN ?_ _ | refine blk_drew ?_ | refine blk_alloc ?_ _)); exact BK180.out) hb); have n1_ := Aside0.mk (below_step (by repeat (first | (with_reducible first | exact HB.out | apply below_alloc | apply pw_below_drewN | apply below_drew1 | refine below_set ?_ GE180.out) | exact HB.out | (with_reducible exact Below.refl _ _))) hb); clear BK180; clear HB; have BK180 := n0_; have HB := n1_; clear n0_ n1_; (try clear hb); (try clear hb2); (try clear hk); (try clear hi); have hcz8_0 : w7.cell? ⟨gb180, 0, none⟩ = some (.slice A0_0 l0_0.length c0_0) := (blk_cell BK180.out 0).trans rfl; have hfz8_0 := blk_frozen BK180.out 0) | ((with_reducible refine gate_callee (f := 53) rfl ?_); refine goesL_ (some 14) rfl rfl Try.func53 (by kernel_rfl) rfl #[.agg #[.slice A0_0 l0_0.length c0_0]] rfl (by (try simp only [List.map_toArray, List.map_cons, List.map_nil]); first | done | rfl | (simp only [List.length_drop, List.length_take]; rfl)) ?_; (with_reducible refine (spec_l4Bytes.calls k _ _ l0_0 t182 t185 _ ?side1 ?side2 A4.out).mono ?_); (case side1 => repeat (first | exact (Kd.C_below HR0_0.out HB.out) | with_reducible first | refine Kd.C_alloc ?_ _ | refine Kd.C_drewN ?_ _ | refine Kd.C_drew ?_)); (case side2 => exact HC0_0.out); rintro e w9 ⟨v183, v186, rfl, ho0, ho1, hb⟩; refine ⟨_, rfl, ?_⟩; have n0_ := Aside0.mk (Kd.R_lower ho0 (below_size (by repeat (first | (with_reducible first | exact HB.out | apply below_alloc | apply pw_below_drewN | apply below_drew1 | refine below_set ?_ GE180.out) | exact HB.out | (with_reducible exact Below.refl _ _))))); have n1_ := Aside0.mk (Kd.R_lower ho1 (below_size (by repeat (first | (with_reducible first | exact HB.out | apply below_alloc | apply pw_below_drewN | apply below_drew1 | refine below_set ?_ GE180.out) | exact HB.out | (with_reducible exact Below.refl _ _))))); have n2_ := Aside0.mk (blk_below (g := gb180) (o := .cells #[.slice A0_0 l0_0.length c0_0] 29 (0, 0)) (by (with_reducible repeat (first | refine blk_drewN ?_ _ | refine blk_drew ?_ | refine blk_alloc ?_ _)); exact BK180.out) hb); have n3_ := Aside0.mk (below_step (by repeat (first | (with_reducible first | exact HB.out | apply below_alloc | apply pw_below_drewN | apply below_drew1 | refine below_set ?_ GE180.out) | exact HB.out | (with_reducible exact Below.refl _ _))) hb); clear BK180; clear HB; have HO184 := n0_; have HO187 := n1_; have BK180 := n2_; have HB := n3_; clear n0_ n1_ n2_ n3_; (try clear hb); (try clear hb2); (try clear hk); (try clear hi); (try clear ho0); (try clear ho1); obtain ⟨Ao10, co10, eo10⟩ := Kd.R_slice HO187.out; subst eo10))
  go_loopg [6, 19] k (fun kq v6 v19 w' => ∃ (x6_1 : List Int) (x19_1 : Int), v19 = .int .i64 x19_1 ∧ Aside0 (spec_Covered.l0 kq x6_1 t185 (t185.length : Int) x19_1 = some (r1, r2)) ∧ Aside0 (kq ≤ k) ∧ Aside0 (Kd.R (Kd.int .i64) 3 w' w.heap.size (fun _ => True) v6 x6_1) ∧ Aside0 (Kd.R Kd.bool 4 w' w.heap.size (fun _ => True) (.slice Ao10 t185.length co10) t185) ∧ Aside0 (w'.heap[gb180]? = some (.cells #[(.slice A0_0 l0_0.length c0_0)] 29 (0, 0))) ∧ Aside0 (Below w.heap.size w w'))
  case atStart => exact ⟨(([] : List Int)), (0), (by first | rfl | (simp; done) | (simp [*]; done)), H', ⟨Nat.le_refl _⟩, ⟨by first | exact Kd.R_nil _ _ _ _ _ | exact Kd.N_nil _ _ _ _ _ | exact Kd.V_nil _ _ _ _ _ | exact Kd.Q_nil _ _ _ _ _ | exact Kd.S_nil _ _ _ _ _⟩, ⟨by (with_reducible repeat (first | apply Kd.R_alloc | apply Kd.R_drewN | apply Kd.R_drew)); exact HO187.out⟩, ⟨by (with_reducible repeat (first | refine blk_drewN ?_ _ | refine blk_drew ?_ | refine blk_alloc ?_ _)); exact BK180.out⟩, ⟨by repeat (first | (with_reducible first | exact HB.out | apply below_alloc | apply pw_below_drewN | apply below_drew1 | refine below_set ?_ GE180.out) | exact HB.out | (with_reducible exact Below.refl _ _))⟩⟩
  case round =>
   clear H'; try clear c1
   try clear p2
   try clear c3
   try clear c5
   try clear hcz6_0
   try clear hcz8_0
   try clear hfz6_0
   try clear hfz8_0
   obtain ⟨x6_1, x19_1, rfl, HA, HK1, HO_6, HO_17, BK180, HB⟩ := hrel; cases gk with
   | zero => exact absurd HA.out (by simp [spec_Covered.l0])
   | succ k1 =>
    have H := HA.out; clear HA; simp only [spec_Covered.l0] at H; by_cases c11 : x19_1 < (t185.length : Int)
    ·rw [if_pos c11] at H; have c11b0 : decide (x19_1 < (t185.length : Int)) = true := decide_eq_true c11; clear c11; by_cases c12 : 0 ≤ x19_1
     ·rw [if_pos c12] at H; have c12b0 : decide (0 ≤ x19_1) = true := decide_eq_true c12; clear c12; by_cases c13 : x19_1 < (t185.length : Int)
      ·rw [if_pos c13] at H; have c13b0 : decide (x19_1 < (t185.length : Int)) = true := decide_eq_true c13; clear c13; obtain ⟨bq14, hbq14⟩ : ∃ b_ : Bool, b_ = (rdOf false t185 x19_1) := ⟨_, rfl⟩
       replace H : (if bq14 = true then (if x6_1.length < 17592186044416 then (spec_Covered.l0 k1 (x6_1 ++ [x19_1]) t185 (t185.length : Int) (wrap64 (x19_1 + 1))) else (none)) else (spec_Covered.l0 k1 x6_1 t185 (t185.length : Int) (wrap64 (x19_1 + 1)))) = some (r1, r2) := by rw [← hbq14] at H; exact H
       have Nbq14 := Aside0.mk hbq14; clear hbq14; by_cases c15 : bq14 = true
       ·subst c15; have H1 : (if x6_1.length < 17592186044416 then (spec_Covered.l0 k1 (x6_1 ++ [x19_1]) t185 (t185.length : Int) (wrap64 (x19_1 + 1))) else (none)) = some (r1, r2) := by rw [if_pos rfl] at H; exact H
        clear H; have H := H1; clear H1; by_cases c16 : x6_1.length < 17592186044416
        ·rw [if_pos c16] at H; have LMc16 := Aside0.mk c16; clear c16; obtain ⟨y189, hy189⟩ : ∃ y_ : List Int, y_ = (x6_1 ++ [x19_1]) := ⟨_, rfl⟩
         replace H : (spec_Covered.l0 k1 y189 t185 (t185.length : Int) (wrap64 (x19_1 + 1))) = some (r1, r2) := by first | (rw [hy189]; with_reducible exact H) | (have H2_ := (Option.bind_some _ _).symm.trans H; rw [hy189]; with_reducible exact H2_) | (have H2_ := (Option.bind_some _ _).symm.trans H; with_reducible exact H2_) | with_reducible exact H | (rw [hy189]; exact H) | exact H
         have Ny189 := Aside0.mk hy189; clear hy189; have H' := Aside0.mk H; clear H; have p188 : 0 ≤ (x19_1 : Int) := of_decide_eq_true (by first | (with_reducible assumption) | assumption); have q188 : x19_1 < (t185.length : Int) := of_decide_eq_true (by first | (with_reducible assumption) | assumption); obtain ⟨ad188, e188, hx188_0⟩ := Kd.at_bool (Kd.R_reads' HO_17.out).2.2 x19_1 p188 q188; (try rw [← Nbq14.out] at hx188_0); cases e188; replace p188 := eq_true p188; replace q188 := eq_true q188; go_wp2_with (first | ((with_reducible refine gate_builtin (b := .append) (xs := #[.tmp 25, .tmp 27]) rfl ?_); at_builtin; refine Kd.R_append (Kd.int .i64) (w0 := w) w.heap.size rfl (.tmp 25) (.tmp 27) 33 3 (.int .i64 0) 8 rfl Try.underlying33 info3 rfl (by decide) (by omega) u6 x6_1 x19_1 [.int .i64 x19_1] (fun _ => True) (fun _ => False) rfl rfl ?aP (fun _ hk => hk.elim) ?aF ?aO ?aB ?aS ?aL ?_; (case aP => exact rfl); (case aB => exact (by repeat (first | (with_reducible first | exact HB.out | apply below_alloc | apply pw_below_drewN | apply below_drew1 | refine below_set ?_ GE180.out) | exact HB.out | (with_reducible exact Below.refl _ _)))); (case aF => exact (fun _ _ => trivial)); (case aO => exact (by (with_reducible repeat (first | apply Kd.R_alloc | apply Kd.R_drewN | apply Kd.R_drew)); exact HO_6.out)); (case aS => exact (below_size (by repeat (first | (with_reducible first | exact HB.out | apply below_alloc | apply pw_below_drewN | apply below_drew1 | refine below_set ?_ GE180.out) | exact HB.out | (with_reducible exact Below.refl _ _))))); (case aL => have := LMc16.out; omega); intro v190 w17 ho hb hg hat; rw [← Ny189.out] at ho; have n0_ := Aside0.mk (Kd.R_over' (by (with_reducible repeat (first | apply Kd.R_alloc | apply Kd.R_drewN | apply Kd.R_drew)); exact HO_17.out) (Kd.R_typed (by (with_reducible repeat (first | apply Kd.R_alloc | apply Kd.R_drewN | apply Kd.R_drew)); exact HO_6.out)) (by decide) hg); have n1_ := Aside0.mk (blk_grown (g := gb180) (o := .cells #[.slice A0_0 l0_0.length c0_0] 29 (0, 0)) (by (with_reducible repeat (first | refine blk_drewN ?_ _ | refine blk_drew ?_ | refine blk_alloc ?_ _)); exact BK180.out) hg (Kd.R_ne HO_6.out BK180.out (by decide))); have n2_ := Aside0.mk (hb); have n3_ := Aside0.mk (ho); clear HO_17; clear BK180; clear HB; clear HO_6; have HO_17 := n0_; have BK180 := n1_; have HB := n2_; have HO191 := n3_; clear n0_ n1_ n2_ n3_; clear ho hb hg hat)); go_roundg k1
         case measure => have := HK1.out; omega
         case rel => exact ⟨(y189), (wrap64 (x19_1 + 1)), (by first | rfl | (simp; done) | (simp [*]; done)), H', ⟨by have := HK1.out; omega⟩, ⟨by (with_reducible repeat (first | apply Kd.R_alloc | apply Kd.R_drewN | apply Kd.R_drew)); exact HO191.out⟩, ⟨by (with_reducible repeat (first | apply Kd.R_alloc | apply Kd.R_drewN | apply Kd.R_drew)); exact HO_17.out⟩, ⟨by (with_reducible repeat (first | refine blk_drewN ?_ _ | refine blk_drew ?_ | refine blk_alloc ?_ _)); exact BK180.out⟩, ⟨by repeat (first | (with_reducible first | exact HB.out | apply below_alloc | apply pw_below_drewN | apply below_drew1 | refine below_set ?_ GE180.out) | exact HB.out | (with_reducible exact Below.refl _ _))⟩⟩
        ·rw [if_neg c16] at H; exact absurd H (by simp)
       ·replace c15 := Bool.eq_false_iff.mpr c15; subst c15; have H1 : (spec_Covered.l0 k1 x6_1 t185 (t185.length : Int) (wrap64 (x19_1 + 1))) = some (r1, r2) := by rw [if_neg (show ¬ (false = true) by decide)] at H; exact H
        clear H; have H := H1; clear H1; have H' := Aside0.mk H; clear H; have p188 : 0 ≤ (x19_1 : Int) := of_decide_eq_true (by first | (with_reducible assumption) | assumption); have q188 : x19_1 < (t185.length : Int) := of_decide_eq_true (by first | (with_reducible assumption) | assumption); obtain ⟨ad188, e188, hx188_0⟩ := Kd.at_bool (Kd.R_reads' HO_17.out).2.2 x19_1 p188 q188; (try rw [← Nbq14.out] at hx188_0); cases e188; replace p188 := eq_true p188; replace q188 := eq_true q188; go_wp2; go_roundg k1
        case measure => have := HK1.out; omega
        case rel => exact ⟨(x6_1), (wrap64 (x19_1 + 1)), (by first | rfl | (simp; done) | (simp [*]; done)), H', ⟨by have := HK1.out; omega⟩, ⟨by (with_reducible repeat (first | apply Kd.R_alloc | apply Kd.R_drewN | apply Kd.R_drew)); exact HO_6.out⟩, ⟨by (with_reducible repeat (first | apply Kd.R_alloc | apply Kd.R_drewN | apply Kd.R_drew)); exact HO_17.out⟩, ⟨by (with_reducible repeat (first | refine blk_drewN ?_ _ | refine blk_drew ?_ | refine blk_alloc ?_ _)); exact BK180.out⟩, ⟨by repeat (first | (with_reducible first | exact HB.out | apply below_alloc | apply pw_below_drewN | apply below_drew1 | refine below_set ?_ GE180.out) | exact HB.out | (with_reducible exact Below.refl _ _))⟩⟩
      ·rw [if_neg c13] at H; exact absurd H (by simp)
     ·rw [if_neg c12] at H; exact absurd H (by simp)
    ·rw [if_neg c11] at H; have c11b0 : decide (x19_1 < (t185.length : Int)) = false := decide_eq_false c11; clear c11; simp only [Option.some.injEq, Prod.mk.injEq] at H; obtain ⟨rfl, rfl⟩ := H; go_wp2; go_ret2; exact ⟨_, by first | rfl | (simp [errW_none, errW_some] <;> rfl) | (simp [*, errW_none, errW_some] <;> rfl), by (with_reducible repeat (first | apply Kd.R_alloc | apply Kd.R_drewN | apply Kd.R_drew)); exact HO_6.out, by repeat (first | (with_reducible first | exact HB.out | apply below_alloc | apply pw_below_drewN | apply below_drew1 | refine below_set ?_ GE180.out) | exact HB.out | (with_reducible exact Below.refl _ _))⟩
 ·replace c3 := Bool.eq_false_iff.mpr c3; subst c3; have H1 : (some (([] : List Int), false)) = some (r1, r2) := by rw [if_neg (show ¬ (false = true) by decide)] at H; exact H
  clear H; have H := H1; clear H1; simp only [Option.some.injEq, Prod.mk.injEq] at H; obtain ⟨rfl, rfl⟩ := H
  go_enter Try.func15, Try.ntmps15
  go_wp2_with (first | ((with_reducible refine gate_dst (N := 1) rfl ?_); refine box_event ?hg (N := 1) ?hd (cs := #[.slice A0_0 l0_0.length c0_0]) (t := 29) ?hr ?_; (case hd => rfl); (case hg => rfl); (case hr => first | (go_simp; done) | (go_simp; rfl)); intro gb180 hg w18 hbox hb; have n0_ := Aside0.mk (bs_ hb); have n1_ := Aside0.mk (hbox); have n2_ := Aside0.mk ((by rw [hg]; exact bz_ : w.heap.size ≤ gb180)); have n3_ := Aside0.mk ((by rw [hg]; exact bz_ : w.heap.size ≤ gb180)); clear HB; have HB := n0_; have BK180 := n1_; have GW180 := n2_; have GE180 := n3_; clear n0_ n1_ n2_ n3_; clear hb hbox hg; have hcz19_0 : w18.cell? ⟨gb180, 0, none⟩ = some (.slice A0_0 l0_0.length c0_0) := (blk_cell BK180.out 0).trans rfl; have hfz19_0 := blk_frozen BK180.out 0) | ((with_reducible refine gate_callee (f := 11) rfl ?_); refine goesL_ (some 10) rfl rfl Try.func11 (by kernel_rfl) rfl #[.agg #[.slice A0_0 l0_0.length c0_0]] rfl (by (try simp only [List.map_toArray, List.map_cons, List.map_nil]); first | done | rfl | (simp only [List.length_drop, List.length_take]; rfl)) ?_; (with_reducible refine (spec_GoodPile.calls k _ _ l0_0 false _ ?side1 ?side2 A2.out).mono ?_); (case side1 => repeat (first | exact (Kd.C_below HR0_0.out HB.out) | with_reducible first | refine Kd.C_alloc ?_ _ | refine Kd.C_drewN ?_ _ | refine Kd.C_drew ?_)); (case side2 => exact HC0_0.out); rintro e w20 ⟨rfl, hb⟩; refine ⟨_, rfl, ?_⟩; have n0_ := Aside0.mk (blk_below (g := gb180) (o := .cells #[.slice A0_0 l0_0.length c0_0] 29 (0, 0)) (by (with_reducible repeat (first | refine blk_drewN ?_ _ | refine blk_drew ?_ | refine blk_alloc ?_ _)); exact BK180.out) hb); have n1_ := Aside0.mk (below_step (by repeat (first | (with_reducible first | exact HB.out | apply below_alloc | apply pw_below_drewN | apply below_drew1 | refine below_set ?_ GE180.out) | exact HB.out | (with_reducible exact Below.refl _ _))) hb); clear BK180; clear HB; have BK180 := n0_; have HB := n1_; clear n0_ n1_; (try clear hb); (try clear hb2); (try clear hk); (try clear hi))); go_ret2; exact ⟨_, by first | rfl | (simp [errW_none, errW_some] <;> rfl) | (simp [*, errW_none, errW_some] <;> rfl), by first | exact Kd.R_nil _ _ _ _ _ | exact Kd.N_nil _ _ _ _ _ | exact Kd.V_nil _ _ _ _ _ | exact Kd.Q_nil _ _ _ _ _ | exact Kd.S_nil _ _ _ _ _, by repeat (first | (with_reducible first | exact HB.out | apply below_alloc | apply pw_below_drewN | apply below_drew1 | refine below_set ?_ GE180.out) | exact HB.out | (with_reducible exact Below.refl _ _))⟩
def impl_within.f (a0 : Int) (a1 : Int) (a2 : Int) : Option (Bool) := if a1 ≤ a0 then (some (decide (a0 ≤ a2))) else (some false)
set_option maxHeartbeats 8000000 in
set_option maxRecDepth 100000 in
theorem impl_within.calls (a0 : Int) (a1 : Int) (a2 : Int) (r : Bool) (w : World) (h : impl_within.f a0 a1 a2 = some r) :
  Calls Try.prog 63 #[.int .i64 a0, .int .i64 a1, .int .i64 a2] w fun e w' => e = .returned (.bool r) ∧ Drawn0 w w' := by
 have H : (if a1 ≤ a0 then (some (decide (a0 ≤ a2))) else (some false)) = some r := h; clear h; by_cases c4 : a1 ≤ a0
 ·rw [if_pos c4] at H; have c4b0 : decide (a1 ≤ a0) = true := decide_eq_true c4; clear c4; obtain rfl := Option.some.inj H
  go_enter Try.func63, Try.ntmps63
  go_wp2; go_ret; exact ⟨by first | rfl | (simp; done) | (simp [*]; done), by repeat (first | exact Drawn0.refl _ | apply Drawn0.step)⟩
 ·rw [if_neg c4] at H; have c4b0 : decide (a1 ≤ a0) = false := decide_eq_false c4; clear c4; obtain rfl := Option.some.inj H
  go_enter Try.func63, Try.ntmps63
  go_wp2; go_ret; exact ⟨by first | rfl | (simp; done) | (simp [*]; done), by repeat (first | exact Drawn0.refl _ | apply Drawn0.step)⟩
end Go.Proofs.Ytlkbbolkadkedaa.QFnExactCovered
