import Derived.Test.YtlkbbolkadkedaaQFnCoversx0
import Derived.Test.YtlkbbolkadkedaaQFnCoversx4
import Derived.Test.YtlkbbolkadkedaaSr
import Derived.Test.YtlkbbolkadkedaaSq
namespace Go.Proofs.Ytlkbbolkadkedaa.QFnCovers
open Go.RowKit Go.Proofs.YtlkbbolkadkedaaW.PrintWords Go.Proofs.YtlkbbolkadkedaaW.PrintLast Go.Proofs.YtlkbbolkadkedaaW.PrintMore
attribute [local go_sem] max2_int min2_int max_two min_two max_three min_three max_four min_four   -- for this text's walks alone
set_option linter.unusedVariables false
set_option linter.unusedSimpArgs false
mutual
def spec_l4Bytes.l0 : Nat → List Int → List Bool → List (S46) → Int → Int → Option (List Int × List Bool)
 | 0, _, _, _, _, _ => none
 | k + 1, x5, x6, x24, x25, x26 => if x26 < x25 then (if 0 ≤ x26 then (if x26 < (x24.length : Int) then (spec_l4Bytes.l1 k x5 x6 0 x24 x25 x26 ((rd_T46 x24 x26).f0) ((rd_T46 x24 x26).f1) ((rd_T46 x24 x26).f2) ((rd_T46 x24 x26).f3) ((rd_T46 x24 x26).f4) ((rd_T46 x24 x26).f5) ((rd_T46 x24 x26).f6) ((rd_T46 x24 x26).f7) ((rd_T46 x24 x26).f8) ((rd_T46 x24 x26).f9)) else (none)) else (none)) else (some (x5, x6))
def spec_l4Bytes.l1 : Nat → List Int → List Bool → Int → List (S46) → Int → Int → Int → Int → Bool → Int → Int → Int → Int → Int → Int → ByteArray → Option (List Int × List Bool)
 | 0, _, _, _, _, _, _, _, _, _, _, _, _, _, _, _, _ => none
 | k + 1, x5, x6, x9, x24, x25, x26, x164000, x164001, x164002, x164003, x164004, x164005, x164006, x164007, x164008, x164009 => if x9 < (x164009.size : Int) then (if 0 ≤ x9 then (if 0 ≤ (wrap64 (x164007 + x9)) then (if (wrap64 (x164007 + x9)) < (x5.length : Int) then (if (wrap64 (x164007 + x9)) < (x6.length : Int) then (spec_l4Bytes.l1 k (x5.set ((wrap64 (x164007 + x9)) : Int).toNat (bt x164009 x9)) (x6.set ((wrap64 (x164007 + x9)) : Int).toNat true) (wrap64 (x9 + 1)) x24 x25 x26 x164000 x164001 x164002 x164003 x164004 x164005 x164006 x164007 x164008 x164009) else (none)) else (none)) else (none)) else (none)) else (spec_l4Bytes.l0 k x5 x6 x24 x25 (wrap64 (x26 + 1)))
end
def spec_l4Bytes.f (k : Nat) (l0_0 : List (S46)) : Option (List Int × List Bool) := if (l0_0.length : Int) = 0 then (some (([] : List Int), ([] : List Bool))) else (if 0 < (l0_0.length : Int) then (if 0 ≤ ((rd_T46 l0_0 0).f8) then (if ((rd_T46 l0_0 0).f8 : Int).toNat ≤ 281474976710656 then (spec_l4Bytes.l0 k (List.replicate ((rd_T46 l0_0 0).f8 : Int).toNat 0) (List.replicate ((rd_T46 l0_0 0).f8 : Int).toNat false) l0_0 (l0_0.length : Int) 0) else (none)) else (none)) else (none))
theorem spec_l4Bytes.mono_l : ∀ k, (∀ y0 y1 y2 y3 y4, LeO (spec_l4Bytes.l0 k y0 y1 y2 y3 y4) (spec_l4Bytes.l0 (k + 1) y0 y1 y2 y3 y4)) ∧ (∀ y0 y1 y2 y3 y4 y5 y6 y7 y8 y9 y10 y11 y12 y13 y14 y15, LeO (spec_l4Bytes.l1 k y0 y1 y2 y3 y4 y5 y6 y7 y8 y9 y10 y11 y12 y13 y14 y15) (spec_l4Bytes.l1 (k + 1) y0 y1 y2 y3 y4 y5 y6 y7 y8 y9 y10 y11 y12 y13 y14 y15))
 | 0 => ⟨fun _ _ _ _ _ r h => by simp [spec_l4Bytes.l0] at h, fun _ _ _ _ _ _ _ _ _ _ _ _ _ _ _ _ r h => by simp [spec_l4Bytes.l1] at h⟩
 | k + 1 => by
  obtain ⟨ih0, ih1⟩ := spec_l4Bytes.mono_l k; refine ⟨?_, ?_⟩
  ·intro y0 y1 y2 y3 y4; unfold spec_l4Bytes.l0
   repeat' first
   | (with_reducible exact ih0 _ _ _ _ _)
   | (with_reducible exact ih1 _ _ _ _ _ _ _ _ _ _ _ _ _ _ _ _)
   | (with_reducible exact LeO.refl _)
   | (with_reducible exact LeO.none _)
   | (with_reducible refine LeO.ite ?_ ?_)
   | (with_reducible refine LeO.bind ?_ (fun _ => ?_))
   | exact ih0 _ _ _ _ _
   | exact ih1 _ _ _ _ _ _ _ _ _ _ _ _ _ _ _ _
   | exact LeO.none _
   | refine LeO.ite ?_ ?_
   | refine LeO.bind ?_ (fun _ => ?_)
  ·intro y0 y1 y2 y3 y4 y5 y6 y7 y8 y9 y10 y11 y12 y13 y14 y15; unfold spec_l4Bytes.l1
   repeat' first
   | (with_reducible exact ih0 _ _ _ _ _)
   | (with_reducible exact ih1 _ _ _ _ _ _ _ _ _ _ _ _ _ _ _ _)
   | (with_reducible exact LeO.refl _)
   | (with_reducible exact LeO.none _)
   | (with_reducible refine LeO.ite ?_ ?_)
   | (with_reducible refine LeO.bind ?_ (fun _ => ?_))
   | exact ih0 _ _ _ _ _
   | exact ih1 _ _ _ _ _ _ _ _ _ _ _ _ _ _ _ _
   | exact LeO.none _
   | refine LeO.ite ?_ ?_
   | refine LeO.bind ?_ (fun _ => ?_)
theorem spec_l4Bytes.mono : ∀ a0 k, LeO (spec_l4Bytes.f k a0) (spec_l4Bytes.f (k + 1) a0) := by
 intro a0 k; obtain ⟨ih0, ih1⟩ := spec_l4Bytes.mono_l k; unfold spec_l4Bytes.f
 repeat' first
   | (with_reducible exact ih0 _ _ _ _ _)
   | (with_reducible exact ih1 _ _ _ _ _ _ _ _ _ _ _ _ _ _ _ _)
   | (with_reducible exact LeO.refl _)
   | (with_reducible exact LeO.none _)
   | (with_reducible refine LeO.ite ?_ ?_)
   | (with_reducible refine LeO.bind ?_ (fun _ => ?_))
   | exact ih0 _ _ _ _ _
   | exact ih1 _ _ _ _ _ _ _ _ _ _ _ _ _ _ _ _
   | exact LeO.none _
   | refine LeO.ite ?_ ?_
   | refine LeO.bind ?_ (fun _ => ?_)
def spec_l4Bytes.T12 : Bool × List (List Nat × List Nat) := (true, [([], []), ([], []), ([1], [1]), ([], []), ([2, 3], [2, 3]), ([], []), ([5], [5]), ([], []), ([6, 7], [6, 7]), ([0, 4, 0, 1, 2, 3, 4, 5, 6, 7, 8], [0, 4]), ([9, 8, 0, 1, 2, 3, 4, 5, 6, 7, 8], [8, 9])])
def spec_l4Bytes.B12 : List Nat := [0, 0, 2, 0, 14, 0, 32, 0, 224, 511, 1023]
theorem spec_l4Bytes.tab12 : rtab .any (opsOf Try.f53 12) = spec_l4Bytes.T12 := by kernel_rfl
theorem spec_l4Bytes.bits12 : waitsOk spec_l4Bytes.T12.2 spec_l4Bytes.B12 = true := by kernel_rfl
set_option maxHeartbeats 8000000 in
set_option maxRecDepth 100000 in
theorem spec_l4Bytes.calls (k : Nat) (A0_0 : Option Addr) (c0_0 : Nat) (l0_0 : List (S46)) (r1 : List Int) (r2 : List Bool) (w : World) (hr0_0 : Kd.C k46 w A0_0 l0_0.length l0_0) (hc0_0 : l0_0.length ≤ c0_0) (h : spec_l4Bytes.f k l0_0 = some (r1, r2)) :
  Calls Try.prog 53 #[.agg #[.slice A0_0 l0_0.length c0_0]] w fun e w' => ∃ v0_ v1_ : Value, e = .returned (.tuple #[v0_, v1_]) ∧ Kd.R (Kd.int .u8) 5 w' w.heap.size (fun _ => True) v0_ r1 ∧ Kd.R Kd.bool 4 w' w.heap.size (fun _ => True) v1_ r2 ∧ Below w.heap.size w w' := by
 have hu29 := Try.underlying29; have hu46 := Try.underlying46; have HR0_0 := Aside0.mk hr0_0; have HC0_0 := Aside0.mk hc0_0; clear hr0_0 hc0_0; have HB := Aside0.mk (Below.refl w.heap.size w); have H : (if (l0_0.length : Int) = 0 then (some (([] : List Int), ([] : List Bool))) else (if 0 < (l0_0.length : Int) then (if 0 ≤ ((rd_T46 l0_0 0).f8) then (if ((rd_T46 l0_0 0).f8 : Int).toNat ≤ 281474976710656 then (spec_l4Bytes.l0 k (List.replicate ((rd_T46 l0_0 0).f8 : Int).toNat 0) (List.replicate ((rd_T46 l0_0 0).f8 : Int).toNat false) l0_0 (l0_0.length : Int) 0) else (none)) else (none)) else (none))) = some (r1, r2) := h; clear h; by_cases c2 : (l0_0.length : Int) = 0
 ·rw [if_pos c2] at H; have c2b0 : ((l0_0.length : Int) == 0) = true := beq_iff_eq.mpr c2; have c2b1 : ((l0_0.length : Int) != 0) = false := bne_eq_false_iff_eq.mpr c2; clear c2; simp only [Option.some.injEq, Prod.mk.injEq] at H; obtain ⟨rfl, rfl⟩ := H
  go_enter Try.func53, Try.ntmps53
  go_wp2_with (first | ((with_reducible refine gate_dst (N := 1) rfl ?_); refine be_ 1 29 #[.slice A0_0 l0_0.length c0_0] ?_; intro gb154 hg w3 hbox hb; have BK154 := Aside0.mk (hbox); have GW154 := ge_ HB hg; have GE154 := ge_ HB hg; replace HB := hb_ HB hb; clear hb hbox hg; have hcz4_0 : w3.cell? ⟨gb154, 0, none⟩ = some (.slice A0_0 l0_0.length c0_0) := (blk_cell BK154.out 0).trans rfl; have hfz4_0 := blk_frozen BK154.out 0)); go_ret2; exact ⟨_, _, er_, by first | exact Kd.R_nil _ _ _ _ _ | exact Kd.N_nil _ _ _ _ _ | exact Kd.V_nil _ _ _ _ _ | exact Kd.Q_nil _ _ _ _ _ | exact Kd.S_nil _ _ _ _ _, by first | exact Kd.R_nil _ _ _ _ _ | exact Kd.N_nil _ _ _ _ _ | exact Kd.V_nil _ _ _ _ _ | exact Kd.Q_nil _ _ _ _ _ | exact Kd.S_nil _ _ _ _ _, bq_ HB⟩
 ·rw [if_neg c2] at H; have c2b0 : ((l0_0.length : Int) == 0) = false := beq_eq_false_iff_ne.mpr c2; have c2b1 : ((l0_0.length : Int) != 0) = true := bne_iff_ne.mpr c2; have c2b2 : ¬ (l0_0 = []) := fun h_ => c2 (by rw [h_]; rfl)
  by_cases c5 : 0 < (l0_0.length : Int)
  ·rw [if_pos c5] at H; have c5b0 : decide (0 < (l0_0.length : Int)) = true := decide_eq_true c5; have c5b1 : decide (0 < l0_0.length) = true := decide_eq_true (by omega); clear c5; by_cases c6 : 0 ≤ ((rd_T46 l0_0 0).f8)
   ·rw [if_pos c6] at H; have c6b0 := eq_true c6; have c6b1 : decide (0 ≤ ((rd_T46 l0_0 0).f8)) = true := decide_eq_true c6; clear c6; by_cases c7 : ((rd_T46 l0_0 0).f8 : Int).toNat ≤ 281474976710656
    ·rw [if_pos c7] at H; have c7b0 := eq_true c7; have c7b1 : decide (((rd_T46 l0_0 0).f8 : Int).toNat ≤ 281474976710656) = true := decide_eq_true c7; clear c7; obtain ⟨y156, hy156⟩ : ∃ y_ : List Int, y_ = (List.replicate ((rd_T46 l0_0 0).f8 : Int).toNat 0) := ⟨_, rfl⟩
     rw [← hy156] at H
     (try rw [Option.bind_some] at H)
     have Ny156 := Aside0.mk hy156; clear hy156; obtain ⟨y159, hy159⟩ : ∃ y_ : List Bool, y_ = (List.replicate ((rd_T46 l0_0 0).f8 : Int).toNat false) := ⟨_, rfl⟩
     rw [← hy159] at H
     (try rw [Option.bind_some] at H)
     have Ny159 := Aside0.mk hy159; clear hy159; have H' := Aside0.mk H; clear H
     go_enter Try.func53, Try.ntmps53
     go_wp2_with (first | ((with_reducible refine gate_dst (N := 1) rfl ?_); refine be_ 1 29 #[.slice A0_0 l0_0.length c0_0] ?_; intro gb154 hg w8 hbox hb; have BK154 := Aside0.mk (hbox); have GW154 := ge_ HB hg; have GE154 := ge_ HB hg; replace HB := hb_ HB hb; clear hb hbox hg; have hcz9_0 : w8.cell? ⟨gb154, 0, none⟩ = some (.slice A0_0 l0_0.length c0_0) := (blk_cell BK154.out 0).trans rfl; have hfz9_0 := blk_frozen BK154.out 0; have p155 : 0 ≤ (0 : Int) := (by omega); have q155 : 0 < (l0_0.length : Int) := od_; obtain ⟨ad155, e155, hx155_0, hx155_1, hx155_2, hx155_3, hx155_4, hx155_5, hx155_6, hx155_7, hx155_8, hx155_9⟩ := at_T46 HR0_0.out 0 p155 q155; cases e155; have qi155 : (0 < l0_0.length) = True := eq_true (by omega); (try rw [show ((0 : Int)).toNat = 0 from rfl] at hx155_0); (try rw [show 0 * 10 = 0 from rfl] at hx155_0); (try rw [Addr.add_zero'] at hx155_0); (try rw [show ((0 : Int)).toNat = 0 from rfl] at hx155_1); (try rw [show 0 * 10 = 0 from rfl] at hx155_1); (try rw [Addr.add_zero'] at hx155_1); (try rw [show ((0 : Int)).toNat = 0 from rfl] at hx155_2); (try rw [show 0 * 10 = 0 from rfl] at hx155_2); (try rw [Addr.add_zero'] at hx155_2); (try rw [show ((0 : Int)).toNat = 0 from rfl] at hx155_3); (try rw [show 0 * 10 = 0 from rfl] at hx155_3); (try rw [Addr.add_zero'] at hx155_3); (try rw [show ((0 : Int)).toNat = 0 from rfl] at hx155_4); (try rw [show 0 * 10 = 0 from rfl] at hx155_4); (try rw [Addr.add_zero'] at hx155_4); (try rw [show ((0 : Int)).toNat = 0 from rfl] at hx155_5); (try rw [show 0 * 10 = 0 from rfl] at hx155_5); (try rw [Addr.add_zero'] at hx155_5); (try rw [show ((0 : Int)).toNat = 0 from rfl] at hx155_6); (try rw [show 0 * 10 = 0 from rfl] at hx155_6); (try rw [Addr.add_zero'] at hx155_6); (try rw [show ((0 : Int)).toNat = 0 from rfl] at hx155_7); (try rw [show 0 * 10 = 0 from rfl] at hx155_7); (try rw [Addr.add_zero'] at hx155_7); (try rw [show ((0 : Int)).toNat = 0 from rfl] at hx155_8); (try rw [show 0 * 10 = 0 from rfl] at hx155_8); (try rw [Addr.add_zero'] at hx155_8); (try rw [show ((0 : Int)).toNat = 0 from rfl] at hx155_9); (try rw [show 0 * 10 = 0 from rfl] at hx155_9); (try rw [Addr.add_zero'] at hx155_9); replace hx155_0 := ce_ HB.out hx155_0; replace hx155_1 := ce_ HB.out hx155_1; replace hx155_2 := ce_ HB.out hx155_2; replace hx155_3 := ce_ HB.out hx155_3; replace hx155_4 := ce_ HB.out hx155_4; replace hx155_5 := ce_ HB.out hx155_5; replace hx155_6 := ce_ HB.out hx155_6; replace hx155_7 := ce_ HB.out hx155_7; replace hx155_8 := ce_ HB.out hx155_8; replace hx155_9 := ce_ HB.out hx155_9; replace p155 := eq_true p155; replace q155 := eq_true q155) | ((with_reducible refine gate_dst (N := 20) rfl ?_); refine Kd.R_make (Kd.int .u8) _ 5 rfl (N := 20) rfl 52 _ _ rfl ((rd_T46 l0_0 0).f8) rfl rfl Try.underlying52 (.int .u8 0) 1 info5 rfl (by decide) (by omega) 0 (ok := fun _ => True) (okp := fun _ => True) rfl (fun _ hk => hk) trivial (od_) (Nat.le_trans (Nat.mul_le_mul_right _ (od_ : ((rd_T46 l0_0 0).f8).toNat ≤ 281474976710656)) (by omega)) (Below.refl _ _) (Nat.le_refl _) ?_; intro v157 w10 ho11 hb hg_ hnew_; clear hg_ hnew_; (first | rw [← Ny156.out] at ho11 | (simp only [Int.reduceToNat] at ho11; rw [← Ny156.out] at ho11)); have HO158 := Aside0.mk (Kd.R_lower ho11 (below_size (bq_ HB))); replace BK154 := ba_ BK154 hb; replace HB := hb_ HB hb; clear hb ho11) | ((with_reducible refine gate_dst (N := 22) rfl ?_); refine Kd.R_make Kd.bool _ 4 rfl (N := 22) rfl 73 _ _ rfl ((rd_T46 l0_0 0).f8) rfl rfl Try.underlying73 (.bool false) 1 info4 rfl (by decide) (by omega) false (ok := fun _ => True) (okp := fun _ => True) rfl (fun _ hk => hk) trivial (od_) (Nat.le_trans (Nat.mul_le_mul_right _ (od_ : ((rd_T46 l0_0 0).f8).toNat ≤ 281474976710656)) (by omega)) (Below.refl _ _) (Nat.le_refl _) ?_; intro v160 w12 ho13 hb hg_ hnew_; clear hg_ hnew_; (first | rw [← Ny159.out] at ho13 | (simp only [Int.reduceToNat] at ho13; rw [← Ny159.out] at ho13)); replace HO158 := ra_ HO158 hb; have HO161 := Aside0.mk (Kd.R_lower ho13 (below_size (bq_ HB))); replace BK154 := ba_ BK154 hb; replace HB := hb_ HB hb; clear hb ho13; have hcz14_0 : w12.cell? ⟨gb154, 0, none⟩ = some (.slice (some ad155) l0_0.length c0_0) := (blk_cell BK154.out 0).trans rfl; have hfz14_0 := blk_frozen BK154.out 0))
     go_loopg [26] k (fun kq v26 w' => ∃ (x5_1 : List Int) (x6_1 : List Bool) (x26_1 : Int), v26 = .int .i64 x26_1 ∧ Aside0 (spec_l4Bytes.l0 kq x5_1 x6_1 l0_0 (l0_0.length : Int) x26_1 = some (r1, r2)) ∧ Aside0 (kq ≤ k) ∧ Aside0 (Kd.R (Kd.int .u8) 5 w' w.heap.size (fun _ => True) v157 x5_1) ∧ Aside0 (Kd.R Kd.bool 4 w' w.heap.size (fun _ => True) v160 x6_1) ∧ Aside0 (w'.heap[gb154]? = some (.cells #[(.slice (some ad155) l0_0.length c0_0)] 29 (0, 0))) ∧ Aside0 (Below w.heap.size w w'))
     case atStart => exact ⟨(y156), (y159), (0), fs_, H', ⟨Nat.le_refl _⟩, ⟨rq_⟩, ⟨rq_⟩, ⟨pq_⟩, ⟨bq_ HB⟩⟩
     case round =>
      clear H'; try clear p1
      try clear q1
      try clear hx1
      try clear qi1
      try clear c2
      try clear c2b0
      try clear c2b1
      try clear c2b2
      try clear p2
      try clear c5
      try clear c5b0
      try clear c5b1
      try clear c6
      try clear c6b0
      try clear c6b1
      try clear c7
      try clear c7b0
      try clear c7b1
      try clear hcz14_0
      try clear hcz4_0
      try clear hcz9_0
      try clear hfz14_0
      try clear hfz4_0
      try clear hfz9_0
      try clear hx155_0
      try clear hx155_1
      try clear hx155_2
      try clear hx155_3
      try clear hx155_4
      try clear hx155_5
      try clear hx155_6
      try clear hx155_7
      try clear hx155_8
      try clear hx155_9
      try clear p155
      try clear q155
      obtain ⟨x5_1, x6_1, x26_1, rfl, HA, HK1, HO_5, HO_6, BK154, HB⟩ := hrel; cases gk with
      | zero => exact absurd HA.out (by simp [spec_l4Bytes.l0])
      | succ k1 =>
       have H := HA.out; clear HA; simp only [spec_l4Bytes.l0] at H; by_cases c15 : x26_1 < (l0_0.length : Int)
       ·rw [if_pos c15] at H; have c15b0 : decide (x26_1 < (l0_0.length : Int)) = true := decide_eq_true c15; clear c15; by_cases c16 : 0 ≤ x26_1
        ·rw [if_pos c16] at H; have c16b0 : decide (0 ≤ x26_1) = true := decide_eq_true c16; clear c16; by_cases c17 : x26_1 < (l0_0.length : Int)
         ·rw [if_pos c17] at H; have c17b0 : decide (x26_1 < (l0_0.length : Int)) = true := decide_eq_true c17; clear c17; have H' := Aside0.mk H; clear H; have p162 : 0 ≤ (x26_1 : Int) := od_; have q162 : x26_1 < (l0_0.length : Int) := od_; obtain ⟨ad162, e162, hx162_0, hx162_1, hx162_2, hx162_3, hx162_4, hx162_5, hx162_6, hx162_7, hx162_8, hx162_9⟩ := at_T46 HR0_0.out x26_1 p162 q162; obtain rfl : ad155 = ad162 := (by injection e162)
          replace hx162_0 := ce_ HB.out hx162_0; replace hx162_1 := ce_ HB.out hx162_1; replace hx162_2 := ce_ HB.out hx162_2; replace hx162_3 := ce_ HB.out hx162_3; replace hx162_4 := ce_ HB.out hx162_4; replace hx162_5 := ce_ HB.out hx162_5; replace hx162_6 := ce_ HB.out hx162_6; replace hx162_7 := ce_ HB.out hx162_7; replace hx162_8 := ce_ HB.out hx162_8; replace hx162_9 := ce_ HB.out hx162_9; replace p162 := eq_true p162; replace q162 := eq_true q162; go_wp2_with (first | ((with_reducible refine gate_dst (N := 8) rfl ?_); refine be_ 8 46 (#[.int .i64 0, .int .i64 0, .bool false, .int .i64 0, .int .i64 0, .int .i64 0, .int .i64 0, .int .i64 0, .int .i64 0, .string (⟨#[]⟩ : ByteArray)]) ?_; intro gb163 hg w18 hbox hb; replace HO_5 := ra_ HO_5 hb; replace HO_6 := ra_ HO_6 hb; have BK163 := Aside0.mk (hbox); have GW163 := ge_ HB hg; have GE163 := ge_ HB hg; replace HB := hb_ HB hb; have NB154_163 := nl_ BK154 hg; have NB163_154 := ng_ BK154 hg; replace BK154 := ba_ BK154 hb; clear hb hbox hg; have hnb19 := NB163_154.out; have hnc19 := NB154_163.out; obtain ⟨hcz20_0, hcz20_1, hcz20_2, hcz20_3, hcz20_4, hcz20_5, hcz20_6, hcz20_7, hcz20_8, hcz20_9, hfz20_0, hfz20_1, hfz20_2, hfz20_3, hfz20_4, hfz20_5, hfz20_6, hfz20_7, hfz20_8, hfz20_9⟩ := cf10 BK163.out))
          go_loopg [9] k1 (fun kq v9 w' => ∃ (x5_2 : List Int) (x6_2 : List Bool) (x9_2 : Int), v9 = .int .i64 x9_2 ∧ Aside0 (spec_l4Bytes.l1 kq x5_2 x6_2 x9_2 l0_0 (l0_0.length : Int) x26_1 ((rd_T46 l0_0 x26_1).f0) ((rd_T46 l0_0 x26_1).f1) ((rd_T46 l0_0 x26_1).f2) ((rd_T46 l0_0 x26_1).f3) ((rd_T46 l0_0 x26_1).f4) ((rd_T46 l0_0 x26_1).f5) ((rd_T46 l0_0 x26_1).f6) ((rd_T46 l0_0 x26_1).f7) ((rd_T46 l0_0 x26_1).f8) ((rd_T46 l0_0 x26_1).f9) = some (r1, r2)) ∧ Aside0 (kq ≤ k1) ∧ Aside0 (Kd.R (Kd.int .u8) 5 w' w.heap.size (fun _ => True) v157 x5_2) ∧ Aside0 (Kd.R Kd.bool 4 w' w.heap.size (fun _ => True) v160 x6_2) ∧ Aside0 (w'.heap[gb154]? = some (.cells #[(.slice (some ad155) l0_0.length c0_0)] 29 (0, 0))) ∧ Aside0 (w'.heap[gb163]? = some (.cells #[.int .i64 ((rd_T46 l0_0 x26_1).f0), .int .i64 ((rd_T46 l0_0 x26_1).f1), .bool ((rd_T46 l0_0 x26_1).f2), .int .i64 ((rd_T46 l0_0 x26_1).f3), .int .i64 ((rd_T46 l0_0 x26_1).f4), .int .i64 ((rd_T46 l0_0 x26_1).f5), .int .i64 ((rd_T46 l0_0 x26_1).f6), .int .i64 ((rd_T46 l0_0 x26_1).f7), .int .i64 ((rd_T46 l0_0 x26_1).f8), .string ((rd_T46 l0_0 x26_1).f9)] 46 (0, 0))) ∧ Aside0 (Below w.heap.size w w'))
          case atStart => exact ⟨(x5_1), (x6_1), (0), fs_, H', ⟨Nat.le_refl _⟩, ⟨by (with_reducible repeat (first | apply Kd.R_alloc | apply Kd.R_drewN | apply Kd.R_drew)); exact Kd.R_mono (Kd.R_far (p := ⟨gb163, 9, none⟩) (Kd.R_far (p := ⟨gb163, 8, none⟩) (Kd.R_far (p := ⟨gb163, 7, none⟩) (Kd.R_far (p := ⟨gb163, 6, none⟩) (Kd.R_far (p := ⟨gb163, 5, none⟩) (Kd.R_far (p := ⟨gb163, 4, none⟩) (Kd.R_far (p := ⟨gb163, 3, none⟩) (Kd.R_far (p := ⟨gb163, 2, none⟩) (Kd.R_far (p := ⟨gb163, 1, none⟩) (Kd.R_far (p := ⟨gb163, 0, none⟩) (Kd.R_types HO_5.out BK163.out (by decide)) (fun _ hk => hk.2) (.int .i64 ((rd_T46 l0_0 x26_1).f0))) (fun _ hk => hk.2) (.int .i64 ((rd_T46 l0_0 x26_1).f1))) (fun _ hk => hk.2) (.bool ((rd_T46 l0_0 x26_1).f2))) (fun _ hk => hk.2) (.int .i64 ((rd_T46 l0_0 x26_1).f3))) (fun _ hk => hk.2) (.int .i64 ((rd_T46 l0_0 x26_1).f4))) (fun _ hk => hk.2) (.int .i64 ((rd_T46 l0_0 x26_1).f5))) (fun _ hk => hk.2) (.int .i64 ((rd_T46 l0_0 x26_1).f6))) (fun _ hk => hk.2) (.int .i64 ((rd_T46 l0_0 x26_1).f7))) (fun _ hk => hk.2) (.int .i64 ((rd_T46 l0_0 x26_1).f8))) (fun _ hk => hk.2) (.string ((rd_T46 l0_0 x26_1).f9))) (fun _ hk => trivial)⟩, ⟨by (with_reducible repeat (first | apply Kd.R_alloc | apply Kd.R_drewN | apply Kd.R_drew)); exact Kd.R_mono (Kd.R_far (p := ⟨gb163, 9, none⟩) (Kd.R_far (p := ⟨gb163, 8, none⟩) (Kd.R_far (p := ⟨gb163, 7, none⟩) (Kd.R_far (p := ⟨gb163, 6, none⟩) (Kd.R_far (p := ⟨gb163, 5, none⟩) (Kd.R_far (p := ⟨gb163, 4, none⟩) (Kd.R_far (p := ⟨gb163, 3, none⟩) (Kd.R_far (p := ⟨gb163, 2, none⟩) (Kd.R_far (p := ⟨gb163, 1, none⟩) (Kd.R_far (p := ⟨gb163, 0, none⟩) (Kd.R_types HO_6.out BK163.out (by decide)) (fun _ hk => hk.2) (.int .i64 ((rd_T46 l0_0 x26_1).f0))) (fun _ hk => hk.2) (.int .i64 ((rd_T46 l0_0 x26_1).f1))) (fun _ hk => hk.2) (.bool ((rd_T46 l0_0 x26_1).f2))) (fun _ hk => hk.2) (.int .i64 ((rd_T46 l0_0 x26_1).f3))) (fun _ hk => hk.2) (.int .i64 ((rd_T46 l0_0 x26_1).f4))) (fun _ hk => hk.2) (.int .i64 ((rd_T46 l0_0 x26_1).f5))) (fun _ hk => hk.2) (.int .i64 ((rd_T46 l0_0 x26_1).f6))) (fun _ hk => hk.2) (.int .i64 ((rd_T46 l0_0 x26_1).f7))) (fun _ hk => hk.2) (.int .i64 ((rd_T46 l0_0 x26_1).f8))) (fun _ hk => hk.2) (.string ((rd_T46 l0_0 x26_1).f9))) (fun _ hk => trivial)⟩, ⟨by (with_reducible repeat (first | refine blk_drewN ?_ _ | refine blk_drew ?_ | refine blk_alloc ?_ _)); (iterate 10 refine blk_far ?_ NB154_163.out _); (with_reducible repeat (first | refine blk_drewN ?_ _ | refine blk_drew ?_ | refine blk_alloc ?_ _)); exact BK154.out⟩, ⟨pb10_⟩, ⟨bq_ HB⟩⟩
          case round =>
           clear H'; try clear c1
           try clear p1
           try clear q1
           try clear hx1
           try clear qi1
           try clear c2
           try clear c2b0
           try clear c2b1
           try clear c2b2
           try clear p2
           try clear c5
           try clear c5b0
           try clear c5b1
           try clear c6
           try clear c6b0
           try clear c6b1
           try clear c7
           try clear c7b0
           try clear c7b1
           try clear c15
           try clear c15b0
           try clear p15
           try clear q15
           try clear hx15
           try clear qi15
           try clear c16
           try clear c16b0
           try clear p16
           try clear q16
           try clear hx16
           try clear c17
           try clear c17b0
           try clear c19
           try clear hcz14_0
           try clear hcz20_0
           try clear hcz20_1
           try clear hcz20_2
           try clear hcz20_3
           try clear hcz20_4
           try clear hcz20_5
           try clear hcz20_6
           try clear hcz20_7
           try clear hcz20_8
           try clear hcz20_9
           try clear hcz4_0
           try clear hcz9_0
           try clear hfz14_0
           try clear hfz20_0
           try clear hfz20_1
           try clear hfz20_2
           try clear hfz20_3
           try clear hfz20_4
           try clear hfz20_5
           try clear hfz20_6
           try clear hfz20_7
           try clear hfz20_8
           try clear hfz20_9
           try clear hfz4_0
           try clear hfz9_0
           try clear hx155_0
           try clear hx155_1
           try clear hx155_2
           try clear hx155_3
           try clear hx155_4
           try clear hx155_5
           try clear hx155_6
           try clear hx155_7
           try clear hx155_8
           try clear hx155_9
           try clear hx162_0
           try clear hx162_1
           try clear hx162_2
           try clear hx162_3
           try clear hx162_4
           try clear hx162_5
           try clear hx162_6
           try clear hx162_7
           try clear hx162_8
           try clear hx162_9
           try clear p1
           try clear p155
           try clear p162
           try clear p2
           try clear q1
           try clear q155
           try clear q162
           obtain ⟨x5_2, x6_2, x9_2, rfl, HA, HK2, HO_5, HO_6, BK154, BK163, HB⟩ := hrel; cases gk with
           | zero => exact absurd HA.out (by simp [spec_l4Bytes.l1])
           | succ k2 =>
            have H := HA.out; clear HA; simp only [spec_l4Bytes.l1] at H; by_cases c21 : x9_2 < (((rd_T46 l0_0 x26_1).f9).size : Int)
            ·rw [if_pos c21] at H; have c21b0 : decide (x9_2 < (((rd_T46 l0_0 x26_1).f9).size : Int)) = true := decide_eq_true c21; clear c21; by_cases c22 : 0 ≤ x9_2
             ·rw [if_pos c22] at H; have c22b0 : decide (0 ≤ x9_2) = true := decide_eq_true c22; clear c22; obtain ⟨ji24, hji24⟩ : ∃ j_ : Int, (wrap64 (((rd_T46 l0_0 x26_1).f7) + x9_2)) = j_ := ⟨_, rfl⟩
              replace H : (if 0 ≤ (ji24) then (if (ji24) < (x5_2.length : Int) then (if (ji24) < (x6_2.length : Int) then (spec_l4Bytes.l1 k2 (x5_2.set ((ji24) : Int).toNat (bt ((rd_T46 l0_0 x26_1).f9) x9_2)) (x6_2.set ((ji24) : Int).toNat true) (wrap64 (x9_2 + 1)) l0_0 (l0_0.length : Int) x26_1 ((rd_T46 l0_0 x26_1).f0) ((rd_T46 l0_0 x26_1).f1) ((rd_T46 l0_0 x26_1).f2) ((rd_T46 l0_0 x26_1).f3) ((rd_T46 l0_0 x26_1).f4) ((rd_T46 l0_0 x26_1).f5) ((rd_T46 l0_0 x26_1).f6) ((rd_T46 l0_0 x26_1).f7) ((rd_T46 l0_0 x26_1).f8) ((rd_T46 l0_0 x26_1).f9)) else (none)) else (none)) else (none)) = some (r1, r2) := by first | (rw [hji24] at H; exact H) | (simp only [hji24] at H ⊢; exact H)
              have hji24w : (IntKind.i64.wrap (((rd_T46 l0_0 x26_1).f7) + x9_2)) = ji24 := (i64_w _).trans hji24; by_cases c25 : 0 ≤ (ji24)
              ·rw [if_pos c25] at H; have c25b0 : decide (0 ≤ (ji24)) = true := decide_eq_true c25; clear c25; by_cases c26 : (ji24) < (x5_2.length : Int)
               ·rw [if_pos c26] at H; have c26b0 : decide ((ji24) < (x5_2.length : Int)) = true := decide_eq_true c26; clear c26; obtain ⟨y164, hy164⟩ : ∃ y_ : List Int, y_ = (x5_2.set ((ji24) : Int).toNat (bt ((rd_T46 l0_0 x26_1).f9) x9_2)) := ⟨_, rfl⟩
                rw [← hy164] at H
                (try rw [Option.bind_some] at H)
                have Ny164 := Aside0.mk hy164; clear hy164; by_cases c28 : (ji24) < (x6_2.length : Int)
                ·rw [if_pos c28] at H; have c28b0 : decide ((ji24) < (x6_2.length : Int)) = true := decide_eq_true c28; clear c28; obtain ⟨y165, hy165⟩ : ∃ y_ : List Bool, y_ = (x6_2.set ((ji24) : Int).toNat true) := ⟨_, rfl⟩
                 rw [← hy165] at H
                 (try rw [Option.bind_some] at H)
                 have Ny165 := Aside0.mk hy165; clear hy165; have H' := Aside0.mk H; clear H; have hnb30 := NB163_154.out; have hnc30 := NB154_163.out; obtain ⟨hcz31_0, hcz31_1, hcz31_2, hcz31_3, hcz31_4, hcz31_5, hcz31_6, hcz31_7, hcz31_8, hcz31_9, hfz31_0, hfz31_1, hfz31_2, hfz31_3, hfz31_4, hfz31_5, hfz31_6, hfz31_7, hfz31_8, hfz31_9⟩ := cf10 BK163.out; try go_wp2
                 replace HO_5 := Aside0.mk (Kd.R_drew HO_5.out); replace HO_6 := Aside0.mk (Kd.R_drew HO_6.out); replace BK154 := Aside0.mk (blk_drew BK154.out); replace BK163 := Aside0.mk (blk_drew BK163.out); replace HB := Aside0.mk (below_drew1 HB.out); have p23 : 0 ≤ (x9_2 : Int) := od_; have q23 : x9_2 < (((rd_T46 l0_0 x26_1).f9).size : Int) := od_; have hx23 := bt_at ((rd_T46 l0_0 x26_1).f9) x9_2; replace p23 := eq_true p23; replace q23 := eq_true q23; have p27 : 0 ≤ ((ji24) : Int) := od_; have q27 : ((ji24) : Int) < ((x5_2.length : Int) : Int) := od_; obtain ⟨go27, co27, eo27, gb27, gl27, cl27, HG27⟩ := Kd.R_form HO_5.out (by omega); (first | cases eo27 | (injection eo27 with ea_ en_ ec_; (first | subst ea_ | (injection ea_ with ea_; subst ea_)); subst ec_; clear en_)); have GB27 := Aside0.mk gb27; have GG27 := Aside0.mk HG27; clear gb27 gl27 HG27; obtain ⟨hx27_0, hf27_0⟩ := Kd.R_celln 0 (HO_5.out) ((ji24) : Int) p27 q27; replace p27 := eq_true p27; replace q27 := eq_true q27; have HP33 := Kd.R_putn HO_5.out ((ji24) : Int) (bt ((rd_T46 l0_0 x26_1).f9) x9_2); rw [← Ny164.out] at HP33; have HQ33 := Aside0.mk HP33; clear HP33; refine start_ (n := 11) (S := fun w' => w'.cell? ⟨gb163, 0, none⟩ = some (.int .i64 ((rd_T46 l0_0 x26_1).f0)) ∧ w'.cell? ⟨gb163, 1, none⟩ = some (.int .i64 ((rd_T46 l0_0 x26_1).f1)) ∧ w'.cell? ⟨gb163, 2, none⟩ = some (.bool ((rd_T46 l0_0 x26_1).f2)) ∧ w'.cell? ⟨gb163, 3, none⟩ = some (.int .i64 ((rd_T46 l0_0 x26_1).f3)) ∧ w'.cell? ⟨gb163, 4, none⟩ = some (.int .i64 ((rd_T46 l0_0 x26_1).f4)) ∧ w'.cell? ⟨gb163, 5, none⟩ = some (.int .i64 ((rd_T46 l0_0 x26_1).f5)) ∧ w'.cell? ⟨gb163, 6, none⟩ = some (.int .i64 ((rd_T46 l0_0 x26_1).f6)) ∧ w'.cell? ⟨gb163, 7, none⟩ = some (.int .i64 ((rd_T46 l0_0 x26_1).f7)) ∧ w'.cell? ⟨gb163, 8, none⟩ = some (.int .i64 ((rd_T46 l0_0 x26_1).f8)) ∧ w'.cell? ⟨gb163, 9, none⟩ = some (.string ((rd_T46 l0_0 x26_1).f9))) (ds := [10]) #[false, false, false, false, false, false, false, false, false, false, false] (by kernel_rfl) rfl rfl ⟨(blk_cell BK163.out 0).trans rfl, (blk_cell BK163.out 1).trans rfl, (blk_cell BK163.out 2).trans rfl, (blk_cell BK163.out 3).trans rfl, (blk_cell BK163.out 4).trans rfl, (blk_cell BK163.out 5).trans rfl, (blk_cell BK163.out 6).trans rfl, (blk_cell BK163.out 7).trans rfl, (blk_cell BK163.out 8).trans rfl, (blk_cell BK163.out 9).trans rfl⟩ (fun hHeld => ?_); refine with_tabW spec_l4Bytes.tab12 spec_l4Bytes.bits12 (fun HT_ HW_ => ?_); generalize wr.drew = w32 at HO_5 HO_6 BK154 BK163 HB GG27 HQ33 hf27_0 hx27_0 hHeld ⊢; refine pP 0 37 (mB 11 1) HT_ ?_
                 refine pP 1 38 (mB 11 3) HT_ ?_
                 refine pP 3 40 (mB 11 11) HT_ ?_
                 refine pP 5 42 (mB 11 43) HT_ ?_
                 refine pP 7 44 (mB 11 171) HT_ ?_
                 refine tK 2 39 (mB 11 175) HT_ HW_ hHeld ?_
                 refine pP 4 41 (mB 11 191) HT_ ?_
                 refine tK 6 43 (mB 11 255) HT_ HW_ hHeld ?_
                 refine tK 8 45 (mB 11 511) HT_ HW_ hHeld ?_
                 refine pP 9 46 (mB 11 1023) HT_ ?_
                 refine last_ (i := 10) (N := none) #[true, true, true, true, true, true, true, true, true, true, true] rfl rfl (one_of HT_.out (by kernel_rfl)) (by decide) (fun K hK => ?_); refine skip_ (w1 := ?_) ?_ ?_ ?_ ?_; rotate_left
                 ·kernel_rfl
                 ·rfl
                 ·go_simp; rfl
                 refine hK.out _ _ ?_; clear hK K; refine done_ (done_of HT_.out (by kernel_rfl)) ?_; have n0_ : Aside0 (Kd.R (Kd.int .u8) 5 (w32.setCell ⟨go27, ((ji24) : Int).toNat, none⟩ (.int .u8 (bt ((rd_T46 l0_0 x26_1).f9) x9_2))) w.heap.size (fun _ => True) (.slice (some ⟨go27, 0, none⟩) x5_2.length co27) y164) := ⟨by (with_reducible repeat (first | apply Kd.R_alloc | apply Kd.R_drewN | apply Kd.R_drew)); exact HQ33.out⟩
                 have n1_ : Aside0 (Kd.R Kd.bool 4 (w32.setCell ⟨go27, ((ji24) : Int).toNat, none⟩ (.int .u8 (bt ((rd_T46 l0_0 x26_1).f9) x9_2))) w.heap.size (fun _ => True) v160 x6_2) := ⟨by (with_reducible repeat (first | apply Kd.R_alloc | apply Kd.R_drewN | apply Kd.R_drew)); exact Kd.R_mono (Kd.R_far (p := ⟨go27, ((ji24) : Int).toNat, none⟩) (Kd.R_types HO_6.out GG27.out (by decide)) (fun _ hk => hk.2) (.int .u8 (bt ((rd_T46 l0_0 x26_1).f9) x9_2))) (fun _ hk => trivial)⟩
                 have n2_ : Aside0 ((w32.setCell ⟨go27, ((ji24) : Int).toNat, none⟩ (.int .u8 (bt ((rd_T46 l0_0 x26_1).f9) x9_2))).heap[gb154]? = some (.cells #[.slice (some ad155) l0_0.length c0_0] 29 (0, 0))) := ⟨by (with_reducible repeat (first | refine blk_drewN ?_ _ | refine blk_drew ?_ | refine blk_alloc ?_ _)); refine blk_far ?_ (by have h_ := Kd.R_ne HO_5.out BK154.out (by decide); intro e_; exact h_ (by rw [e_]; rfl)) _; (with_reducible repeat (first | refine blk_drewN ?_ _ | refine blk_drew ?_ | refine blk_alloc ?_ _)); exact BK154.out⟩
                 have n3_ : Aside0 ((w32.setCell ⟨go27, ((ji24) : Int).toNat, none⟩ (.int .u8 (bt ((rd_T46 l0_0 x26_1).f9) x9_2))).heap[gb163]? = some (.cells #[.int .i64 ((rd_T46 l0_0 x26_1).f0), .int .i64 ((rd_T46 l0_0 x26_1).f1), .bool ((rd_T46 l0_0 x26_1).f2), .int .i64 ((rd_T46 l0_0 x26_1).f3), .int .i64 ((rd_T46 l0_0 x26_1).f4), .int .i64 ((rd_T46 l0_0 x26_1).f5), .int .i64 ((rd_T46 l0_0 x26_1).f6), .int .i64 ((rd_T46 l0_0 x26_1).f7), .int .i64 ((rd_T46 l0_0 x26_1).f8), .string ((rd_T46 l0_0 x26_1).f9)] 46 (0, 0))) := ⟨by (with_reducible repeat (first | refine blk_drewN ?_ _ | refine blk_drew ?_ | refine blk_alloc ?_ _)); refine blk_far ?_ (by have h_ := Kd.R_ne HO_5.out BK163.out (by decide); intro e_; exact h_ (by rw [e_]; rfl)) _; (with_reducible repeat (first | refine blk_drewN ?_ _ | refine blk_drew ?_ | refine blk_alloc ?_ _)); exact BK163.out⟩
                 have n4_ : Aside0 (Below w.heap.size w (w32.setCell ⟨go27, ((ji24) : Int).toNat, none⟩ (.int .u8 (bt ((rd_T46 l0_0 x26_1).f9) x9_2)))) := ⟨bq_ HB⟩
                 (try clear HO_5); (try clear HO_6); (try clear BK154); (try clear BK163); (try clear HB); generalize (w32.setCell ⟨go27, ((ji24) : Int).toNat, none⟩ (.int .u8 (bt ((rd_T46 l0_0 x26_1).f9) x9_2))) = w34 at n0_ n1_ n2_ n3_ n4_ ⊢; have HO_5 := n0_; have HO_6 := n1_; have BK154 := n2_; have BK163 := n3_; have HB := n4_; clear n0_ n1_ n2_ n3_ n4_; obtain ⟨hcz35_0, hcz35_1, hcz35_2, hcz35_3, hcz35_4, hcz35_5, hcz35_6, hcz35_7, hcz35_8, hcz35_9, hfz35_0, hfz35_1, hfz35_2, hfz35_3, hfz35_4, hfz35_5, hfz35_6, hfz35_7, hfz35_8, hfz35_9⟩ := cf10 BK163.out; have p29 : 0 ≤ ((ji24) : Int) := od_; have q29 : ((ji24) : Int) < ((x6_2.length : Int) : Int) := od_; obtain ⟨go29, co29, eo29, gb29, gl29, cl29, HG29⟩ := Kd.R_form HO_6.out (by omega); (first | cases eo29 | (injection eo29 with ea_ en_ ec_; (first | subst ea_ | (injection ea_ with ea_; subst ea_)); subst ec_; clear en_)); have GB29 := Aside0.mk gb29; have GG29 := Aside0.mk HG29; clear gb29 gl29 HG29; obtain ⟨hx29_0, hf29_0⟩ := Kd.R_celln false (HO_6.out) ((ji24) : Int) p29 q29; replace p29 := eq_true p29; replace q29 := eq_true q29; obtain ⟨hy36_, hz36_⟩ := Kd.R_celln false HO_6.out ((ji24) : Int) (od_) (od_); have HP36 := Kd.R_putg HO_6.out ((ji24) : Int) true; try go_wp2_with (first | ((with_reducible refine gate_store (t := 4) (p := 52) rfl ?_); refine store_event (t := 4) (p := 52) (v := ?vo_w37) (w1 := (w34.setCell ⟨go29, ((ji24) : Int).toNat, none⟩ (.bool true))) ?hg ?ho ?hn ?hr ?_; (case ho => rfl); (case hg => rfl); (case hn => rfl); (case hr => first | (go_simp; done) | (go_simp; rfl)); intro w37 hw; have hg : w34.grownBy w37 (some go29) := (by rw [hw]; exact HP36.2); have hp_ : Kd.R Kd.bool 4 w37 w.heap.size (fun _ => True) (.slice (some ⟨go29, 0, none⟩) x6_2.length co29) y165 := (by rw [hw, Ny165.out]; exact HP36.1); clear HP36; replace HO_5 := Aside0.mk (Kd.R_over' (v := (.slice (some ⟨go29, 0, none⟩) x6_2.length co29)) (by (with_reducible repeat (first | apply Kd.R_alloc | apply Kd.R_drewN | apply Kd.R_drew)); exact HO_5.out) (Kd.R_typed HO_6.out) (by decide) hg); replace BK154 := bg_ BK154 hg (Kd.R_ne HO_6.out BK154.out (by decide)); replace BK163 := bg_ BK163 hg (Kd.R_ne HO_6.out BK163.out (by decide)); replace HO_6 := Aside0.mk (hp_); replace HB := Aside0.mk ((by rw [hw]; exact below_set (HB.out) GB29.out : Below w.heap.size w w37)); clear hg hw hp_))
                 go_roundg k2
                 case measure => have := HK1.out; have := HK2.out; omega
                 case rel => exact ⟨(y164), (y165), (wrap64 (x9_2 + 1)), fs_, H', ⟨by have := HK1.out; have := HK2.out; omega⟩, ⟨rq_⟩, ⟨rq_⟩, ⟨pq_⟩, ⟨pq_⟩, ⟨bq_ HB⟩⟩
                ·rw [if_neg c28] at H; exact no_ H
               ·rw [if_neg c26] at H; exact no_ H
              ·rw [if_neg c25] at H; exact no_ H
             ·rw [if_neg c22] at H; exact no_ H
            ·rw [if_neg c21] at H; have c21b0 : decide (x9_2 < (((rd_T46 l0_0 x26_1).f9).size : Int)) = false := decide_eq_false c21; clear c21; have H' := Aside0.mk H; clear H; have hnb38 := NB163_154.out; have hnc38 := NB154_163.out; obtain ⟨hcz39_0, hcz39_1, hcz39_2, hcz39_3, hcz39_4, hcz39_5, hcz39_6, hcz39_7, hcz39_8, hcz39_9, hfz39_0, hfz39_1, hfz39_2, hfz39_3, hfz39_4, hfz39_5, hfz39_6, hfz39_7, hfz39_8, hfz39_9⟩ := cf10 BK163.out; go_wp2; go_roundg k2
             case measure => have := HK1.out; have := HK2.out; omega
             case rel => exact ⟨(x5_2), (x6_2), (wrap64 (x26_1 + 1)), fs_, H', ⟨by have := HK1.out; have := HK2.out; omega⟩, ⟨rq_⟩, ⟨rq_⟩, ⟨pq_⟩, ⟨bq_ HB⟩⟩
         ·rw [if_neg c17] at H; exact no_ H
        ·rw [if_neg c16] at H; exact no_ H
       ·rw [if_neg c15] at H; have c15b0 : decide (x26_1 < (l0_0.length : Int)) = false := decide_eq_false c15; clear c15; simp only [Option.some.injEq, Prod.mk.injEq] at H; obtain ⟨rfl, rfl⟩ := H; go_wp2; go_ret2; exact ⟨_, _, er_, by (with_reducible repeat (first | apply Kd.R_alloc | apply Kd.R_drewN | apply Kd.R_drew)); exact HO_5.out, by (with_reducible repeat (first | apply Kd.R_alloc | apply Kd.R_drewN | apply Kd.R_drew)); exact HO_6.out, bq_ HB⟩
    ·rw [if_neg c7] at H; exact no_ H
   ·rw [if_neg c6] at H; exact no_ H
  ·rw [if_neg c5] at H; exact no_ H
def spec_Covered.l0 : Nat → List Int → List Bool → Int → Int → Option (List Int × Bool)
 | 0, _, _, _, _ => none
 | k + 1, x6, x17, x18, x19 => if x19 < x18 then (if 0 ≤ x19 then (if x19 < (x17.length : Int) then (if rdOf false x17 x19 = true then (if x6.length < 17592186044416 then (spec_Covered.l0 k (x6 ++ [x19]) x17 x18 (wrap64 (x19 + 1))) else (none)) else (spec_Covered.l0 k x6 x17 x18 (wrap64 (x19 + 1)))) else (none)) else (none)) else (some (x6, true))
def spec_Covered.f (k : Nat) (l0_0 : List (S46)) : Option (List Int × Bool) := (spec_GoodPile.f k l0_0).bind fun t167 => (if t167 = true then ((spec_l4Bytes.f k l0_0).bind fun bt168 => (spec_Covered.l0 k ([] : List Int) bt168.2 (bt168.2.length : Int) 0)) else (some (([] : List Int), false)))
theorem spec_Covered.mono_l : ∀ k, (∀ y0 y1 y2 y3, LeO (spec_Covered.l0 k y0 y1 y2 y3) (spec_Covered.l0 (k + 1) y0 y1 y2 y3))
 | 0 => fun _ _ _ _ r h => by simp [spec_Covered.l0] at h
 | k + 1 => by
  have ih0 := spec_Covered.mono_l k
  ·intro y0 y1 y2 y3; unfold spec_Covered.l0
   repeat' first
   | (with_reducible exact ih0 _ _ _ _)
   | (with_reducible exact spec_GoodPile.mono _ _)
   | (with_reducible exact spec_l4Bytes.mono _ _)
   | (with_reducible exact LeO.refl _)
   | (with_reducible exact LeO.none _)
   | (with_reducible refine LeO.ite ?_ ?_)
   | (with_reducible refine LeO.bind ?_ (fun _ => ?_))
   | exact ih0 _ _ _ _
   | exact spec_GoodPile.mono _ _
   | exact spec_l4Bytes.mono _ _
   | exact LeO.none _
   | refine LeO.ite ?_ ?_
   | refine LeO.bind ?_ (fun _ => ?_)
theorem spec_Covered.mono : ∀ a0 k, LeO (spec_Covered.f k a0) (spec_Covered.f (k + 1) a0) := by
 intro a0 k; have ih0 := spec_Covered.mono_l k; unfold spec_Covered.f
 repeat' first
   | (with_reducible exact ih0 _ _ _ _)
   | (with_reducible exact spec_GoodPile.mono _ _)
   | (with_reducible exact spec_l4Bytes.mono _ _)
   | (with_reducible exact LeO.refl _)
   | (with_reducible exact LeO.none _)
   | (with_reducible refine LeO.ite ?_ ?_)
   | (with_reducible refine LeO.bind ?_ (fun _ => ?_))
   | exact ih0 _ _ _ _
   | exact spec_GoodPile.mono _ _
   | exact spec_l4Bytes.mono _ _
   | exact LeO.none _
   | refine LeO.ite ?_ ?_
   | refine LeO.bind ?_ (fun _ => ?_)
set_option maxHeartbeats 8000000 in
set_option maxRecDepth 100000 in
theorem spec_Covered.calls (k : Nat) (A0_0 : Option Addr) (c0_0 : Nat) (l0_0 : List (S46)) (r1 : List Int) (r2 : Bool) (w : World) (hr0_0 : Kd.C k46 w A0_0 l0_0.length l0_0) (hc0_0 : l0_0.length ≤ c0_0) (h : spec_Covered.f k l0_0 = some (r1, r2)) :
  Calls Try.prog 15 #[.agg #[.slice A0_0 l0_0.length c0_0]] w fun e w' => ∃ v0_ : Value, e = .returned (.tuple #[v0_, .bool r2]) ∧ Kd.R (Kd.int .i64) 3 w' w.heap.size (fun _ => True) v0_ r1 ∧ Below w.heap.size w w' := by
 have hu29 := Try.underlying29; have HR0_0 := Aside0.mk hr0_0; have HC0_0 := Aside0.mk hc0_0; clear hr0_0 hc0_0; have HB := Aside0.mk (Below.refl w.heap.size w); have H : ((spec_GoodPile.f k l0_0).bind fun t167 => (if t167 = true then ((spec_l4Bytes.f k l0_0).bind fun bt168 => (spec_Covered.l0 k ([] : List Int) bt168.2 (bt168.2.length : Int) 0)) else (some (([] : List Int), false)))) = some (r1, r2) := h; clear h; replace H := Option.bind_eq_some_iff.mp H; obtain ⟨t167, A20, H⟩ := H; (try dsimp only at H); have A2 := Aside0.mk A20; clear A20; by_cases c3 : t167 = true
 ·subst c3; rw [if_pos rfl] at H; replace H := Option.bind_eq_some_iff.mp H; obtain ⟨⟨t168, t171⟩, A40, H⟩ := H; (try dsimp only at H); have A4 := Aside0.mk A40; clear A40; have H' := Aside0.mk H; clear H
  go_enter Try.func15, Try.ntmps15
  go_wp2_with (first | ((with_reducible refine gate_dst (N := 1) rfl ?_); refine be_ 1 29 #[.slice A0_0 l0_0.length c0_0] ?_; intro gb166 hg w5 hbox hb; have BK166 := Aside0.mk (hbox); have GW166 := ge_ HB hg; have GE166 := ge_ HB hg; replace HB := hb_ HB hb; clear hb hbox hg; have hcz6_0 : w5.cell? ⟨gb166, 0, none⟩ = some (.slice A0_0 l0_0.length c0_0) := (blk_cell BK166.out 0).trans rfl; have hfz6_0 := blk_frozen BK166.out 0) | ((with_reducible refine gate_callee (f := 11) rfl ?_); refine goesL_ (some 10) rfl rfl Try.func11 (by kernel_rfl) rfl #[.agg #[.slice A0_0 l0_0.length c0_0]] rfl ma_ ?_; (with_reducible refine (spec_GoodPile.calls k _ _ l0_0 true _ ?side1 ?side2 A2.out).mono ?_); (case side1 => repeat (first | exact (Kd.C_below HR0_0.out HB.out) | with_reducible first | refine Kd.C_alloc ?_ _ | refine Kd.C_drewN ?_ _ | refine Kd.C_drew ?_)); (case side2 => exact HC0_0.out); rintro e w7 ⟨rfl, hb⟩; refine ⟨_, rfl, ?_⟩; replace BK166 := ba_ BK166 hb; replace HB := hb_ HB hb; (try clear hb); (try clear hb2); (try clear hk); (try clear hi); have hcz8_0 : w7.cell? ⟨gb166, 0, none⟩ = some (.slice A0_0 l0_0.length c0_0) := (blk_cell BK166.out 0).trans rfl; have hfz8_0 := blk_frozen BK166.out 0) | ((with_reducible refine gate_callee (f := 53) rfl ?_); refine goesL_ (some 14) rfl rfl Try.func53 (by kernel_rfl) rfl #[.agg #[.slice A0_0 l0_0.length c0_0]] rfl ma_ ?_; (with_reducible refine (spec_l4Bytes.calls k _ _ l0_0 t168 t171 _ ?side1 ?side2 A4.out).mono ?_); (case side1 => repeat (first | exact (Kd.C_below HR0_0.out HB.out) | with_reducible first | refine Kd.C_alloc ?_ _ | refine Kd.C_drewN ?_ _ | refine Kd.C_drew ?_)); (case side2 => exact HC0_0.out); rintro e w9 ⟨v169, v172, rfl, ho0, ho1, hb⟩; refine ⟨_, rfl, ?_⟩; have HO170 := Aside0.mk (Kd.R_lower ho0 (below_size (bq_ HB))); have HO173 := Aside0.mk (Kd.R_lower ho1 (below_size (bq_ HB))); replace BK166 := ba_ BK166 hb; replace HB := hb_ HB hb; (try clear hb); (try clear hb2); (try clear hk); (try clear hi); (try clear ho0); (try clear ho1); obtain ⟨Ao10, co10, eo10⟩ := Kd.R_slice HO173.out; subst eo10))
  go_loopg [6, 19] k (fun kq v6 v19 w' => ∃ (x6_1 : List Int) (x19_1 : Int), v19 = .int .i64 x19_1 ∧ Aside0 (spec_Covered.l0 kq x6_1 t171 (t171.length : Int) x19_1 = some (r1, r2)) ∧ Aside0 (kq ≤ k) ∧ Aside0 (Kd.R (Kd.int .i64) 3 w' w.heap.size (fun _ => True) v6 x6_1) ∧ Aside0 (Kd.R Kd.bool 4 w' w.heap.size (fun _ => True) (.slice Ao10 t171.length co10) t171) ∧ Aside0 (w'.heap[gb166]? = some (.cells #[(.slice A0_0 l0_0.length c0_0)] 29 (0, 0))) ∧ Aside0 (Below w.heap.size w w'))
  case atStart => exact ⟨(([] : List Int)), (0), fs_, H', ⟨Nat.le_refl _⟩, ⟨by first | exact Kd.R_nil _ _ _ _ _ | exact Kd.N_nil _ _ _ _ _ | exact Kd.V_nil _ _ _ _ _ | exact Kd.Q_nil _ _ _ _ _ | exact Kd.S_nil _ _ _ _ _⟩, ⟨rq_⟩, ⟨pq_⟩, ⟨bq_ HB⟩⟩
  case round =>
   clear H'; try clear c1
   try clear p2
   try clear c3
   try clear c5
   try clear hcz6_0
   try clear hcz8_0
   try clear hfz6_0
   try clear hfz8_0
   obtain ⟨x6_1, x19_1, rfl, HA, HK1, HO_6, HO_17, BK166, HB⟩ := hrel; cases gk with
   | zero => exact absurd HA.out (by simp [spec_Covered.l0])
   | succ k1 =>
    have H := HA.out; clear HA; simp only [spec_Covered.l0] at H; by_cases c11 : x19_1 < (t171.length : Int)
    ·rw [if_pos c11] at H; have c11b0 : decide (x19_1 < (t171.length : Int)) = true := decide_eq_true c11; clear c11; by_cases c12 : 0 ≤ x19_1
     ·rw [if_pos c12] at H; have c12b0 : decide (0 ≤ x19_1) = true := decide_eq_true c12; clear c12; by_cases c13 : x19_1 < (t171.length : Int)
      ·rw [if_pos c13] at H; have c13b0 : decide (x19_1 < (t171.length : Int)) = true := decide_eq_true c13; clear c13; obtain ⟨bq14, hbq14⟩ : ∃ b_ : Bool, b_ = (rdOf false t171 x19_1) := ⟨_, rfl⟩
       replace H : (if bq14 = true then (if x6_1.length < 17592186044416 then (spec_Covered.l0 k1 (x6_1 ++ [x19_1]) t171 (t171.length : Int) (wrap64 (x19_1 + 1))) else (none)) else (spec_Covered.l0 k1 x6_1 t171 (t171.length : Int) (wrap64 (x19_1 + 1)))) = some (r1, r2) := by rw [← hbq14] at H; exact H
       have Nbq14 := Aside0.mk hbq14; clear hbq14; by_cases c15 : bq14 = true
       ·subst c15; rw [if_pos rfl] at H; by_cases c16 : x6_1.length < 17592186044416
        ·rw [if_pos c16] at H; have LMc16 := Aside0.mk c16; clear c16; obtain ⟨y175, hy175⟩ : ∃ y_ : List Int, y_ = (x6_1 ++ [x19_1]) := ⟨_, rfl⟩
         rw [← hy175] at H
         (try rw [Option.bind_some] at H)
         have Ny175 := Aside0.mk hy175; clear hy175; have H' := Aside0.mk H; clear H; have p174 : 0 ≤ (x19_1 : Int) := od_; have q174 : x19_1 < (t171.length : Int) := od_; obtain ⟨ad174, e174, hx174_0⟩ := Kd.at_bool (Kd.R_reads' HO_17.out).2.2 x19_1 p174 q174; (try rw [← Nbq14.out] at hx174_0); cases e174; replace p174 := eq_true p174; replace q174 := eq_true q174; go_wp2_with (first | ((with_reducible refine gate_builtin (b := .append) (xs := #[.tmp 25, .tmp 27]) rfl ?_); at_builtin; refine Kd.R_append (Kd.int .i64) (w0 := w) w.heap.size rfl (.tmp 25) (.tmp 27) 33 3 (.int .i64 0) 8 rfl Try.underlying33 info3 rfl (by decide) (by omega) u6 x6_1 x19_1 [.int .i64 x19_1] (fun _ => True) (fun _ => False) rfl rfl ?aP (fun _ hk => hk.elim) ?aF ?aO ?aB ?aS ?aL ?_; (case aP => exact rfl); (case aB => exact (bq_ HB)); (case aF => exact (fun _ _ => trivial)); (case aO => exact (by (with_reducible repeat (first | apply Kd.R_alloc | apply Kd.R_drewN | apply Kd.R_drew)); exact HO_6.out)); (case aS => exact (below_size (bq_ HB))); (case aL => have := LMc16.out; omega); intro v176 w17 ho hb hg hat; rw [← Ny175.out] at ho; replace HO_17 := Aside0.mk (Kd.R_over' (by (with_reducible repeat (first | apply Kd.R_alloc | apply Kd.R_drewN | apply Kd.R_drew)); exact HO_17.out) (Kd.R_typed (by (with_reducible repeat (first | apply Kd.R_alloc | apply Kd.R_drewN | apply Kd.R_drew)); exact HO_6.out)) (by decide) hg); replace BK166 := bg_ BK166 hg (Kd.R_ne HO_6.out BK166.out (by decide)); replace HB := Aside0.mk (hb); have HO177 := Aside0.mk (ho); clear HO_6; clear ho hb hg hat)); go_roundg k1
         case measure => have := HK1.out; omega
         case rel => exact ⟨(y175), (wrap64 (x19_1 + 1)), fs_, H', ⟨by have := HK1.out; omega⟩, ⟨rq_⟩, ⟨rq_⟩, ⟨pq_⟩, ⟨bq_ HB⟩⟩
        ·rw [if_neg c16] at H; exact no_ H
       ·replace c15 := Bool.eq_false_iff.mpr c15; subst c15; rw [if_neg (show ¬ (false = true) by decide)] at H; have H' := Aside0.mk H; clear H; have p174 : 0 ≤ (x19_1 : Int) := od_; have q174 : x19_1 < (t171.length : Int) := od_; obtain ⟨ad174, e174, hx174_0⟩ := Kd.at_bool (Kd.R_reads' HO_17.out).2.2 x19_1 p174 q174; (try rw [← Nbq14.out] at hx174_0); cases e174; replace p174 := eq_true p174; replace q174 := eq_true q174; go_wp2; go_roundg k1
        case measure => have := HK1.out; omega
        case rel => exact ⟨(x6_1), (wrap64 (x19_1 + 1)), fs_, H', ⟨by have := HK1.out; omega⟩, ⟨rq_⟩, ⟨rq_⟩, ⟨pq_⟩, ⟨bq_ HB⟩⟩
      ·rw [if_neg c13] at H; exact no_ H
     ·rw [if_neg c12] at H; exact no_ H
    ·rw [if_neg c11] at H; have c11b0 : decide (x19_1 < (t171.length : Int)) = false := decide_eq_false c11; clear c11; simp only [Option.some.injEq, Prod.mk.injEq] at H; obtain ⟨rfl, rfl⟩ := H; go_wp2; go_ret2; exact ⟨_, er_, by (with_reducible repeat (first | apply Kd.R_alloc | apply Kd.R_drewN | apply Kd.R_drew)); exact HO_6.out, bq_ HB⟩
 ·replace c3 := Bool.eq_false_iff.mpr c3; subst c3; rw [if_neg (show ¬ (false = true) by decide)] at H; simp only [Option.some.injEq, Prod.mk.injEq] at H; obtain ⟨rfl, rfl⟩ := H
  go_enter Try.func15, Try.ntmps15
  go_wp2_with (first | ((with_reducible refine gate_dst (N := 1) rfl ?_); refine be_ 1 29 #[.slice A0_0 l0_0.length c0_0] ?_; intro gb166 hg w18 hbox hb; have BK166 := Aside0.mk (hbox); have GW166 := ge_ HB hg; have GE166 := ge_ HB hg; replace HB := hb_ HB hb; clear hb hbox hg; have hcz19_0 : w18.cell? ⟨gb166, 0, none⟩ = some (.slice A0_0 l0_0.length c0_0) := (blk_cell BK166.out 0).trans rfl; have hfz19_0 := blk_frozen BK166.out 0) | ((with_reducible refine gate_callee (f := 11) rfl ?_); refine goesL_ (some 10) rfl rfl Try.func11 (by kernel_rfl) rfl #[.agg #[.slice A0_0 l0_0.length c0_0]] rfl ma_ ?_; (with_reducible refine (spec_GoodPile.calls k _ _ l0_0 false _ ?side1 ?side2 A2.out).mono ?_); (case side1 => repeat (first | exact (Kd.C_below HR0_0.out HB.out) | with_reducible first | refine Kd.C_alloc ?_ _ | refine Kd.C_drewN ?_ _ | refine Kd.C_drew ?_)); (case side2 => exact HC0_0.out); rintro e w20 ⟨rfl, hb⟩; refine ⟨_, rfl, ?_⟩; replace BK166 := ba_ BK166 hb; replace HB := hb_ HB hb; (try clear hb); (try clear hb2); (try clear hk); (try clear hi))); go_ret2; exact ⟨_, er_, by first | exact Kd.R_nil _ _ _ _ _ | exact Kd.N_nil _ _ _ _ _ | exact Kd.V_nil _ _ _ _ _ | exact Kd.Q_nil _ _ _ _ _ | exact Kd.S_nil _ _ _ _ _, bq_ HB⟩
def spec_MissingIn.f (k : Nat) (l0_0 : List (S46)) : Option (Int × Bool) := (spec_Covered.f k l0_0).bind fun bt179 => (if bt179.2 = true then (if (l0_0.length : Int) = 0 then (some (0, bt179.2)) else (if 0 < (l0_0.length : Int) then (some (wrap64 (((rd_T46 l0_0 0).f8) - (bt179.1.length : Int)), true)) else (none))) else (some (0, bt179.2)))
theorem spec_MissingIn.mono : ∀ a0 k, LeO (spec_MissingIn.f k a0) (spec_MissingIn.f (k + 1) a0) := by
 intro a0 k; unfold spec_MissingIn.f
 repeat' first
   | (with_reducible exact spec_Covered.mono _ _)
   | (with_reducible exact LeO.refl _)
   | (with_reducible exact LeO.none _)
   | (with_reducible refine LeO.ite ?_ ?_)
   | (with_reducible refine LeO.bind ?_ (fun _ => ?_))
   | exact spec_Covered.mono _ _
   | exact LeO.none _
   | refine LeO.ite ?_ ?_
   | refine LeO.bind ?_ (fun _ => ?_)
set_option maxHeartbeats 8000000 in
set_option maxRecDepth 100000 in
theorem spec_MissingIn.calls (k : Nat) (A0_0 : Option Addr) (c0_0 : Nat) (l0_0 : List (S46)) (r1 : Int) (r2 : Bool) (w : World) (hr0_0 : Kd.C k46 w A0_0 l0_0.length l0_0) (hc0_0 : l0_0.length ≤ c0_0) (h : spec_MissingIn.f k l0_0 = some (r1, r2)) :
  Calls Try.prog 21 #[.agg #[.slice A0_0 l0_0.length c0_0]] w fun e w' => e = .returned (.tuple #[.int .i64 r1, .bool r2]) ∧ Below w.heap.size w w' := by
 have hu29 := Try.underlying29; have HR0_0 := Aside0.mk hr0_0; have HC0_0 := Aside0.mk hc0_0; clear hr0_0 hc0_0; have HB := Aside0.mk (Below.refl w.heap.size w); have H : ((spec_Covered.f k l0_0).bind fun bt179 => (if bt179.2 = true then (if (l0_0.length : Int) = 0 then (some (0, bt179.2)) else (if 0 < (l0_0.length : Int) then (some (wrap64 (((rd_T46 l0_0 0).f8) - (bt179.1.length : Int)), true)) else (none))) else (some (0, bt179.2)))) = some (r1, r2) := h; clear h; replace H := Option.bind_eq_some_iff.mp H; obtain ⟨⟨t179, t182⟩, A20, H⟩ := H; (try dsimp only at H); have A2 := Aside0.mk A20; clear A20; by_cases c3 : t182 = true
 ·subst c3; rw [if_pos rfl] at H; by_cases c4 : (l0_0.length : Int) = 0
  ·rw [if_pos c4] at H; have c4b0 : ((l0_0.length : Int) == 0) = true := beq_iff_eq.mpr c4; have c4b1 : ((l0_0.length : Int) != 0) = false := bne_eq_false_iff_eq.mpr c4; clear c4; simp only [Option.some.injEq, Prod.mk.injEq] at H; obtain ⟨rfl, rfl⟩ := H
   go_enter Try.func21, Try.ntmps21
   go_wp2_with (first | ((with_reducible refine gate_dst (N := 1) rfl ?_); (try (refine gate_guard (by rfl) ?_; dsimp only)); refine be_ 1 29 #[.slice A0_0 l0_0.length c0_0] ?_; intro gb178 hg w5 hbox hb; have BK178 := Aside0.mk (hbox); have GW178 := ge_ HB hg; have GE178 := ge_ HB hg; replace HB := hb_ HB hb; clear hb hbox hg; have hcz6_0 : w5.cell? ⟨gb178, 0, none⟩ = some (.slice A0_0 l0_0.length c0_0) := (blk_cell BK178.out 0).trans rfl; have hfz6_0 := blk_frozen BK178.out 0) | ((with_reducible refine gate_callee (f := 15) rfl ?_); refine goesL_ (some 8) rfl rfl Try.func15 (by kernel_rfl) rfl #[.agg #[.slice A0_0 l0_0.length c0_0]] rfl ma_ ?_; (with_reducible refine (spec_Covered.calls k _ _ l0_0 t179 true _ ?side1 ?side2 A2.out).mono ?_); (case side1 => repeat (first | exact (Kd.C_below HR0_0.out HB.out) | with_reducible first | refine Kd.C_alloc ?_ _ | refine Kd.C_drewN ?_ _ | refine Kd.C_drew ?_)); (case side2 => exact HC0_0.out); rintro e w7 ⟨v180, rfl, ho0, hb⟩; refine ⟨_, rfl, ?_⟩; have HO181 := Aside0.mk (Kd.R_lower ho0 (below_size (bq_ HB))); replace BK178 := ba_ BK178 hb; replace HB := hb_ HB hb; (try clear hb); (try clear hb2); (try clear hk); (try clear hi); (try clear ho0); have hcz8_0 : w7.cell? ⟨gb178, 0, none⟩ = some (.slice A0_0 l0_0.length c0_0) := (blk_cell BK178.out 0).trans rfl; have hfz8_0 := blk_frozen BK178.out 0)); go_ret2; exact ⟨er_, bq_ HB⟩
  ·rw [if_neg c4] at H; have c4b0 : ((l0_0.length : Int) == 0) = false := beq_eq_false_iff_ne.mpr c4; have c4b1 : ((l0_0.length : Int) != 0) = true := bne_iff_ne.mpr c4; have c4b2 : ¬ (l0_0 = []) := fun h_ => c4 (by rw [h_]; rfl)
   by_cases c9 : 0 < (l0_0.length : Int)
   ·rw [if_pos c9] at H; have c9b0 : decide (0 < (l0_0.length : Int)) = true := decide_eq_true c9; have c9b1 : decide (0 < l0_0.length) = true := decide_eq_true (by omega); clear c9; simp only [Option.some.injEq, Prod.mk.injEq] at H; obtain ⟨rfl, rfl⟩ := H
    go_enter Try.func21, Try.ntmps21
    go_wp2_with (first | ((with_reducible refine gate_dst (N := 1) rfl ?_); (try (refine gate_guard (by rfl) ?_; dsimp only)); refine be_ 1 29 #[.slice A0_0 l0_0.length c0_0] ?_; intro gb178 hg w10 hbox hb; have BK178 := Aside0.mk (hbox); have GW178 := ge_ HB hg; have GE178 := ge_ HB hg; replace HB := hb_ HB hb; clear hb hbox hg; have hcz11_0 : w10.cell? ⟨gb178, 0, none⟩ = some (.slice A0_0 l0_0.length c0_0) := (blk_cell BK178.out 0).trans rfl; have hfz11_0 := blk_frozen BK178.out 0) | ((with_reducible refine gate_callee (f := 15) rfl ?_); refine goesL_ (some 8) rfl rfl Try.func15 (by kernel_rfl) rfl #[.agg #[.slice A0_0 l0_0.length c0_0]] rfl ma_ ?_; (with_reducible refine (spec_Covered.calls k _ _ l0_0 t179 true _ ?side1 ?side2 A2.out).mono ?_); (case side1 => repeat (first | exact (Kd.C_below HR0_0.out HB.out) | with_reducible first | refine Kd.C_alloc ?_ _ | refine Kd.C_drewN ?_ _ | refine Kd.C_drew ?_)); (case side2 => exact HC0_0.out); rintro e w12 ⟨v180, rfl, ho0, hb⟩; refine ⟨_, rfl, ?_⟩; have HO181 := Aside0.mk (Kd.R_lower ho0 (below_size (bq_ HB))); replace BK178 := ba_ BK178 hb; replace HB := hb_ HB hb; (try clear hb); (try clear hb2); (try clear hk); (try clear hi); (try clear ho0); have hcz13_0 : w12.cell? ⟨gb178, 0, none⟩ = some (.slice A0_0 l0_0.length c0_0) := (blk_cell BK178.out 0).trans rfl; have hfz13_0 := blk_frozen BK178.out 0; have p183 : 0 ≤ (0 : Int) := (by omega); have q183 : 0 < (l0_0.length : Int) := od_; obtain ⟨ad183, e183, hx183_0, hx183_1, hx183_2, hx183_3, hx183_4, hx183_5, hx183_6, hx183_7, hx183_8, hx183_9⟩ := at_T46 HR0_0.out 0 p183 q183; cases e183; have qi183 : (0 < l0_0.length) = True := eq_true (by omega); (try rw [show ((0 : Int)).toNat = 0 from rfl] at hx183_0); (try rw [show 0 * 10 = 0 from rfl] at hx183_0); (try rw [Addr.add_zero'] at hx183_0); (try rw [show ((0 : Int)).toNat = 0 from rfl] at hx183_1); (try rw [show 0 * 10 = 0 from rfl] at hx183_1); (try rw [Addr.add_zero'] at hx183_1); (try rw [show ((0 : Int)).toNat = 0 from rfl] at hx183_2); (try rw [show 0 * 10 = 0 from rfl] at hx183_2); (try rw [Addr.add_zero'] at hx183_2); (try rw [show ((0 : Int)).toNat = 0 from rfl] at hx183_3); (try rw [show 0 * 10 = 0 from rfl] at hx183_3); (try rw [Addr.add_zero'] at hx183_3); (try rw [show ((0 : Int)).toNat = 0 from rfl] at hx183_4); (try rw [show 0 * 10 = 0 from rfl] at hx183_4); (try rw [Addr.add_zero'] at hx183_4); (try rw [show ((0 : Int)).toNat = 0 from rfl] at hx183_5); (try rw [show 0 * 10 = 0 from rfl] at hx183_5); (try rw [Addr.add_zero'] at hx183_5); (try rw [show ((0 : Int)).toNat = 0 from rfl] at hx183_6); (try rw [show 0 * 10 = 0 from rfl] at hx183_6); (try rw [Addr.add_zero'] at hx183_6); (try rw [show ((0 : Int)).toNat = 0 from rfl] at hx183_7); (try rw [show 0 * 10 = 0 from rfl] at hx183_7); (try rw [Addr.add_zero'] at hx183_7); (try rw [show ((0 : Int)).toNat = 0 from rfl] at hx183_8); (try rw [show 0 * 10 = 0 from rfl] at hx183_8); (try rw [Addr.add_zero'] at hx183_8); (try rw [show ((0 : Int)).toNat = 0 from rfl] at hx183_9); (try rw [show 0 * 10 = 0 from rfl] at hx183_9); (try rw [Addr.add_zero'] at hx183_9); replace hx183_0 := ce_ HB.out hx183_0; replace hx183_1 := ce_ HB.out hx183_1; replace hx183_2 := ce_ HB.out hx183_2; replace hx183_3 := ce_ HB.out hx183_3; replace hx183_4 := ce_ HB.out hx183_4; replace hx183_5 := ce_ HB.out hx183_5; replace hx183_6 := ce_ HB.out hx183_6; replace hx183_7 := ce_ HB.out hx183_7; replace hx183_8 := ce_ HB.out hx183_8; replace hx183_9 := ce_ HB.out hx183_9; replace p183 := eq_true p183; replace q183 := eq_true q183; obtain ⟨Ao14, co14, eo14⟩ := Kd.R_slice HO181.out; subst eo14)); go_ret2; exact ⟨er_, bq_ HB⟩
   ·rw [if_neg c9] at H; exact no_ H
 ·replace c3 := Bool.eq_false_iff.mpr c3; subst c3; rw [if_neg (show ¬ (false = true) by decide)] at H; simp only [Option.some.injEq, Prod.mk.injEq] at H; obtain ⟨rfl, rfl⟩ := H
  go_enter Try.func21, Try.ntmps21
  go_wp2_with (first | ((with_reducible refine gate_dst (N := 1) rfl ?_); (try (refine gate_guard (by rfl) ?_; dsimp only)); refine be_ 1 29 #[.slice A0_0 l0_0.length c0_0] ?_; intro gb178 hg w15 hbox hb; have BK178 := Aside0.mk (hbox); have GW178 := ge_ HB hg; have GE178 := ge_ HB hg; replace HB := hb_ HB hb; clear hb hbox hg; have hcz16_0 : w15.cell? ⟨gb178, 0, none⟩ = some (.slice A0_0 l0_0.length c0_0) := (blk_cell BK178.out 0).trans rfl; have hfz16_0 := blk_frozen BK178.out 0) | ((with_reducible refine gate_callee (f := 15) rfl ?_); refine goesL_ (some 8) rfl rfl Try.func15 (by kernel_rfl) rfl #[.agg #[.slice A0_0 l0_0.length c0_0]] rfl ma_ ?_; (with_reducible refine (spec_Covered.calls k _ _ l0_0 t179 false _ ?side1 ?side2 A2.out).mono ?_); (case side1 => repeat (first | exact (Kd.C_below HR0_0.out HB.out) | with_reducible first | refine Kd.C_alloc ?_ _ | refine Kd.C_drewN ?_ _ | refine Kd.C_drew ?_)); (case side2 => exact HC0_0.out); rintro e w17 ⟨v180, rfl, ho0, hb⟩; refine ⟨_, rfl, ?_⟩; have HO181 := Aside0.mk (Kd.R_lower ho0 (below_size (bq_ HB))); replace BK178 := ba_ BK178 hb; replace HB := hb_ HB hb; (try clear hb); (try clear hb2); (try clear hk); (try clear hi); (try clear ho0))); go_ret2; exact ⟨er_, bq_ HB⟩
end Go.Proofs.Ytlkbbolkadkedaa.QFnCovers
