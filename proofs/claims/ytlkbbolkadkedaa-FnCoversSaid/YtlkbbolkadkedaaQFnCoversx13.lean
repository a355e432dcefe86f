import Derived.Test.YtlkbbolkadkedaaQFnCoversx0
import Derived.Test.YtlkbbolkadkedaaQFnCoversx8
import Derived.Test.YtlkbbolkadkedaaSr
import Derived.Test.YtlkbbolkadkedaaSq
namespace Go.Proofs.Ytlkbbolkadkedaa.QFnCovers
open Go.RowKit Go.Proofs.YtlkbbolkadkedaaW.PrintWords Go.Proofs.YtlkbbolkadkedaaW.PrintLast Go.Proofs.YtlkbbolkadkedaaW.PrintMore
attribute [local go_sem] max2_int min2_int max_two min_two max_three min_three max_four min_four   -- for this text's walks alone
set_option linter.unusedVariables false
set_option linter.unusedSimpArgs false
mutual
def spec_WholeOf.j0 : Nat → Bool → List (S46) → Option (Int × Int × Bool × Int × Int × Int × Int × Int × Int × ByteArray × Bool)
 | 0, _, _ => none
 | k + 1, x27, x225000 => if x27 = true then (some (0, 0, false, 0, 0, 0, 0, 0, 0, (⟨#[]⟩ : ByteArray), false)) else ((spec_l4Bytes.f k x225000).bind fun bt228 => (if 0 < (x225000.length : Int) then (spec_WholeOf.l0 k bt228.1 x225000 (x225000.length : Int) 0 ((rd_T46 x225000 0).f0) ((rd_T46 x225000 0).f1) ((rd_T46 x225000 0).f2) ((rd_T46 x225000 0).f3) ((rd_T46 x225000 0).f4) ((rd_T46 x225000 0).f5) ((rd_T46 x225000 0).f6) ((rd_T46 x225000 0).f7) ((rd_T46 x225000 0).f8) ((rd_T46 x225000 0).f9)) else (none)))
def spec_WholeOf.l0 : Nat → List Int → List (S46) → Int → Int → Int → Int → Bool → Int → Int → Int → Int → Int → Int → ByteArray → Option (Int × Int × Bool × Int × Int × Int × Int × Int × Int × ByteArray × Bool)
 | 0, _, _, _, _, _, _, _, _, _, _, _, _, _, _ => none
 | k + 1, x6, x39, x40, x41, x236000, x236001, x236002, x236003, x236004, x236005, x236006, x236007, x236008, x236009 => if x41 < x40 then (if 0 ≤ x41 then (if x41 < (x39.length : Int) then (if ((rd_T46 x39 x41).f6) < x236006 then (spec_WholeOf.l0 k x6 x39 x40 (wrap64 (x41 + 1)) x236000 x236001 x236002 x236003 x236004 x236005 ((rd_T46 x39 x41).f6) x236007 x236008 x236009) else (spec_WholeOf.l0 k x6 x39 x40 (wrap64 (x41 + 1)) x236000 x236001 x236002 x236003 x236004 x236005 x236006 x236007 x236008 x236009)) else (none)) else (none)) else (some (x236000, x236001, x236002, x236003, x236004, x236005, x236006, 0, 0, strOfNums x6, true))
end
def spec_WholeOf.f (k : Nat) (l0_0 : List (S46)) : Option (Int × Int × Bool × Int × Int × Int × Int × Int × Int × ByteArray × Bool) := (spec_MissingIn.f k l0_0).bind fun bt226 => (if bt226.2 = true then (if bt226.1 > 0 then (spec_WholeOf.j0 k true l0_0) else (spec_WholeOf.j0 k ((l0_0.length : Int) == 0) l0_0)) else (spec_WholeOf.j0 k true l0_0))
theorem spec_WholeOf.mono_l : ∀ k, (∀ y0 y1, LeO (spec_WholeOf.j0 k y0 y1) (spec_WholeOf.j0 (k + 1) y0 y1)) ∧ (∀ y0 y1 y2 y3 y4 y5 y6 y7 y8 y9 y10 y11 y12 y13, LeO (spec_WholeOf.l0 k y0 y1 y2 y3 y4 y5 y6 y7 y8 y9 y10 y11 y12 y13) (spec_WholeOf.l0 (k + 1) y0 y1 y2 y3 y4 y5 y6 y7 y8 y9 y10 y11 y12 y13))
 | 0 => ⟨fun _ _ r h => by simp [spec_WholeOf.j0] at h, fun _ _ _ _ _ _ _ _ _ _ _ _ _ _ r h => by simp [spec_WholeOf.l0] at h⟩
 | k + 1 => by
  obtain ⟨ih0, ih1⟩ := spec_WholeOf.mono_l k; refine ⟨?_, ?_⟩
  ·intro y0 y1; unfold spec_WholeOf.j0
   repeat' first
   | (with_reducible exact ih0 _ _)
   | (with_reducible exact ih1 _ _ _ _ _ _ _ _ _ _ _ _ _ _)
   | (with_reducible exact spec_MissingIn.mono _ _)
   | (with_reducible exact spec_l4Bytes.mono _ _)
   | (with_reducible exact LeO.refl _)
   | (with_reducible exact LeO.none _)
   | (with_reducible refine LeO.ite ?_ ?_)
   | (with_reducible refine LeO.bind ?_ (fun _ => ?_))
   | exact ih0 _ _
   | exact ih1 _ _ _ _ _ _ _ _ _ _ _ _ _ _
   | exact spec_MissingIn.mono _ _
   | exact spec_l4Bytes.mono _ _
   | exact LeO.none _
   | refine LeO.ite ?_ ?_
   | refine LeO.bind ?_ (fun _ => ?_)
  ·intro y0 y1 y2 y3 y4 y5 y6 y7 y8 y9 y10 y11 y12 y13; unfold spec_WholeOf.l0
   repeat' first
   | (with_reducible exact ih0 _ _)
   | (with_reducible exact ih1 _ _ _ _ _ _ _ _ _ _ _ _ _ _)
   | (with_reducible exact spec_MissingIn.mono _ _)
   | (with_reducible exact spec_l4Bytes.mono _ _)
   | (with_reducible exact LeO.refl _)
   | (with_reducible exact LeO.none _)
   | (with_reducible refine LeO.ite ?_ ?_)
   | (with_reducible refine LeO.bind ?_ (fun _ => ?_))
   | exact ih0 _ _
   | exact ih1 _ _ _ _ _ _ _ _ _ _ _ _ _ _
   | exact spec_MissingIn.mono _ _
   | exact spec_l4Bytes.mono _ _
   | exact LeO.none _
   | refine LeO.ite ?_ ?_
   | refine LeO.bind ?_ (fun _ => ?_)
theorem spec_WholeOf.mono : ∀ a0 k, LeO (spec_WholeOf.f k a0) (spec_WholeOf.f (k + 1) a0) := by
 intro a0 k; obtain ⟨ih0, ih1⟩ := spec_WholeOf.mono_l k; unfold spec_WholeOf.f
 repeat' first
   | (with_reducible exact ih0 _ _)
   | (with_reducible exact ih1 _ _ _ _ _ _ _ _ _ _ _ _ _ _)
   | (with_reducible exact spec_MissingIn.mono _ _)
   | (with_reducible exact spec_l4Bytes.mono _ _)
   | (with_reducible exact LeO.refl _)
   | (with_reducible exact LeO.none _)
   | (with_reducible refine LeO.ite ?_ ?_)
   | (with_reducible refine LeO.bind ?_ (fun _ => ?_))
   | exact ih0 _ _
   | exact ih1 _ _ _ _ _ _ _ _ _ _ _ _ _ _
   | exact spec_MissingIn.mono _ _
   | exact spec_l4Bytes.mono _ _
   | exact LeO.none _
   | refine LeO.ite ?_ ?_
   | refine LeO.bind ?_ (fun _ => ?_)
set_option maxHeartbeats 8000000 in
set_option maxRecDepth 100000 in
theorem spec_WholeOf.calls (k : Nat) (A0_0 : Option Addr) (c0_0 : Nat) (l0_0 : List (S46)) (r1 : Int) (r2 : Int) (r3 : Bool) (r4 : Int) (r5 : Int) (r6 : Int) (r7 : Int) (r8 : Int) (r9 : Int) (r10 : ByteArray) (r11 : Bool) (w : World) (hr0_0 : Kd.C k46 w A0_0 l0_0.length l0_0) (hc0_0 : l0_0.length ≤ c0_0) (h : spec_WholeOf.f k l0_0 = some (r1, r2, r3, r4, r5, r6, r7, r8, r9, r10, r11)) :
  Calls Try.prog 28 #[.agg #[.slice A0_0 l0_0.length c0_0]] w fun e w' => e = .returned (.tuple #[.agg #[.int .i64 r1, .int .i64 r2, .bool r3, .int .i64 r4, .int .i64 r5, .int .i64 r6, .int .i64 r7, .int .i64 r8, .int .i64 r9, .string r10], .bool r11]) ∧ Below w.heap.size w w' := by
 have hu29 := Try.underlying29; have hu46 := Try.underlying46; have HR0_0 := Aside0.mk hr0_0; have HC0_0 := Aside0.mk hc0_0; clear hr0_0 hc0_0; have HB := Aside0.mk (Below.refl w.heap.size w); have H : ((spec_MissingIn.f k l0_0).bind fun bt226 => (if bt226.2 = true then (if bt226.1 > 0 then (spec_WholeOf.j0 k true l0_0) else (spec_WholeOf.j0 k ((l0_0.length : Int) == 0) l0_0)) else (spec_WholeOf.j0 k true l0_0))) = some (r1, r2, r3, r4, r5, r6, r7, r8, r9, r10, r11) := h; clear h; replace H := Option.bind_eq_some_iff.mp H; obtain ⟨⟨t226, t227⟩, A20, H⟩ := H; (try dsimp only at H); have A2 := Aside0.mk A20; clear A20; have HC3 := Aside0.mk H; clear H
 go_enter Try.func28, Try.ntmps28
 go_upto_region 2 with (first | ((with_reducible refine gate_dst (N := 1) rfl ?_); (try (refine gate_guard (by rfl) ?_; dsimp only)); refine be_ 1 29 #[.slice A0_0 l0_0.length c0_0] ?_; intro gb224 hg w4 hbox hb; have BK224 := Aside0.mk (hbox); have GW224 := ge_ HB hg; have GE224 := ge_ HB hg; replace HB := hb_ HB hb; clear hb hbox hg) | ((with_reducible refine gate_dst (N := 2) rfl ?_); (try (refine gate_guard (by rfl) ?_; dsimp only)); refine be_ 2 46 (#[.int .i64 0, .int .i64 0, .bool false, .int .i64 0, .int .i64 0, .int .i64 0, .int .i64 0, .int .i64 0, .int .i64 0, .string (⟨#[]⟩ : ByteArray)]) ?_; intro gb225 hg w5 hbox hb; have BK225 := Aside0.mk (hbox); have GW225 := ge_ HB hg; have GE225 := ge_ HB hg; replace HB := hb_ HB hb; have NB224_225 := nl_ BK224 hg; have NB225_224 := ng_ BK224 hg; replace BK224 := ba_ BK224 hb; clear hb hbox hg; have hnb6 := NB224_225.out; have hnc6 := NB225_224.out; have hcz7_0 : w5.cell? ⟨gb224, 0, none⟩ = some (.slice A0_0 l0_0.length c0_0) := (blk_cell BK224.out 0).trans rfl; have hfz7_0 := blk_frozen BK224.out 0) | ((with_reducible refine gate_callee (f := 21) rfl ?_); refine goesL_ (some 13) rfl rfl Try.func21 (by kernel_rfl) rfl #[.agg #[.slice A0_0 l0_0.length c0_0]] rfl ma_ ?_; (with_reducible refine (spec_MissingIn.calls k _ _ l0_0 t226 t227 _ ?side1 ?side2 A2.out).mono ?_); (case side1 => repeat (first | exact (Kd.C_below HR0_0.out HB.out) | with_reducible first | refine Kd.C_alloc ?_ _ | refine Kd.C_drewN ?_ _ | refine Kd.C_drew ?_)); (case side2 => exact HC0_0.out); rintro e w8 ⟨rfl, hb⟩; refine ⟨_, rfl, ?_⟩; replace BK224 := ba_ BK224 hb; replace BK225 := ba_ BK225 hb; replace HB := hb_ HB hb; (try clear hb); (try clear hb2); (try clear hk); (try clear hi)))
 (try simp only [Act.put, List.setIfInBounds_toArray, List.set_cons_zero, List.set_cons_succ])
 go_cut [27] (fun v27 wc => ∃ (kq : Nat) (x27_2 : Bool), v27 = .bool x27_2 ∧ Aside0 (spec_WholeOf.j0 kq x27_2 l0_0 = some (r1, r2, r3, r4, r5, r6, r7, r8, r9, r10, r11)) ∧ Aside0 (kq ≤ k) ∧ Aside0 (wc.heap[gb224]? = some (.cells #[(.slice A0_0 l0_0.length c0_0)] 29 (0, 0))) ∧ Aside0 (wc.heap[gb225]? = some (.cells #[.int .i64 0, .int .i64 0, .bool false, .int .i64 0, .int .i64 0, .int .i64 0, .int .i64 0, .int .i64 0, .int .i64 0, .string (⟨#[]⟩ : ByteArray)] 46 (0, 0))) ∧ Aside0 (Below w.heap.size w wc))
 case first =>
  have H := HC3.out; clear HC3; by_cases c9 : t227 = true
  ·subst c9; rw [if_pos rfl] at H; by_cases c10 : t226 > 0
   ·rw [if_pos c10] at H; have c10b0 : decide (0 < t226) = true := decide_eq_true c10; clear c10; (first | rw [c10b0] | (simp only [i64_w, i32_w]; rw [c10b0]) | skip); have H' := Aside0.mk H; clear H; go_wp2; go_meet
    case rel => exact ⟨_, (true), fs_, H', ⟨by first | omega | exact Nat.le_refl _⟩, ⟨pq_⟩, ⟨pq_⟩, ⟨bq_ HB⟩⟩
   ·rw [if_neg c10] at H; have c10b0 : decide (0 < t226) = false := decide_eq_false c10; clear c10; (first | rw [c10b0] | (simp only [i64_w, i32_w]; rw [c10b0]) | skip); have H' := Aside0.mk H; clear H; have hnb11 := NB224_225.out; have hnc11 := NB225_224.out; have hcz12_0 : w8.cell? ⟨gb224, 0, none⟩ = some (.slice A0_0 l0_0.length c0_0) := (blk_cell BK224.out 0).trans rfl; have hfz12_0 := blk_frozen BK224.out 0; go_wp2; go_meet
    case rel => exact ⟨_, (((l0_0.length : Int) == 0)), fs_, H', ⟨by first | omega | exact Nat.le_refl _⟩, ⟨pq_⟩, ⟨pq_⟩, ⟨bq_ HB⟩⟩
  ·replace c9 := Bool.eq_false_iff.mpr c9; subst c9; rw [if_neg (show ¬ (false = true) by decide)] at H; have H' := Aside0.mk H; clear H; go_wp2; go_meet
   case rel => exact ⟨_, (true), fs_, H', ⟨by first | omega | exact Nat.le_refl _⟩, ⟨pq_⟩, ⟨pq_⟩, ⟨bq_ HB⟩⟩
 case rest =>
  clear HC3; try clear c1
  try clear c2
  try clear p2
  try clear c6
  try clear c9
  try clear c10
  try clear c10b0
  try clear c11
  try clear hcz12_0
  try clear hcz7_0
  try clear hfz12_0
  try clear hfz7_0
  obtain ⟨kq, x27_2, rfl, HA, HJ2, BK224, BK225, HB⟩ := hcut; cases kq with
  | zero => exact absurd HA.out (by simp [spec_WholeOf.j0])
  | succ kj2 =>
   have H := HA.out; clear HA; simp only [spec_WholeOf.j0] at H; by_cases c13 : x27_2 = true
   ·subst c13; rw [if_pos rfl] at H; simp only [Option.some.injEq, Prod.mk.injEq] at H; obtain ⟨rfl, rfl, rfl, rfl, rfl, rfl, rfl, rfl, rfl, rfl, rfl⟩ := H; have hnb14 := NB225_224.out; have hnc14 := NB224_225.out; obtain ⟨hcz15_0, hcz15_1, hcz15_2, hcz15_3, hcz15_4, hcz15_5, hcz15_6, hcz15_7, hcz15_8, hcz15_9, hfz15_0, hfz15_1, hfz15_2, hfz15_3, hfz15_4, hfz15_5, hfz15_6, hfz15_7, hfz15_8, hfz15_9⟩ := cf10 BK225.out; go_wp2; refine bodyPost_ret (results_ct rfl _ _ gb225 46 #[.int .i64 0, .int .i64 0, .bool false, .int .i64 0, .int .i64 0, .int .i64 0, .int .i64 0, .int .i64 0, .int .i64 0, .string (⟨#[]⟩ : ByteArray)] (0, 0) _ rfl pb10_ Try.underlying46 rfl (by kernel_rfl)) rfl ?_; exact ⟨er_, bq_ HB⟩
   ·replace c13 := Bool.eq_false_iff.mpr c13; subst c13; rw [if_neg (show ¬ (false = true) by decide)] at H; replace H := Option.bind_eq_some_iff.mp H; obtain ⟨⟨t228, t231⟩, A160, H⟩ := H; (try dsimp only at H); have A16 := Aside0.mk A160; clear A160; by_cases c17 : 0 < (l0_0.length : Int)
    ·rw [if_pos c17] at H; have c17b0 : decide (0 < (l0_0.length : Int)) = true := decide_eq_true c17; have c17b1 : decide (0 < l0_0.length) = true := decide_eq_true (by omega); clear c17; have H' := Aside0.mk H; clear H; have hnb18 := NB224_225.out; have hnc18 := NB225_224.out; have hcz19_0 : wc.cell? ⟨gb224, 0, none⟩ = some (.slice A0_0 l0_0.length c0_0) := (blk_cell BK224.out 0).trans rfl; have hfz19_0 := blk_frozen BK224.out 0; go_wp2_with (first | ((with_reducible refine gate_callee (f := 53) rfl ?_); refine goesL_ (some 31) rfl rfl Try.func53 (by kernel_rfl) rfl #[.agg #[.slice A0_0 l0_0.length c0_0]] rfl ma_ ?_; (with_reducible refine (spec_l4Bytes.calls kj2 _ _ l0_0 t228 t231 _ ?side1 ?side2 A16.out).mono ?_); (case side1 => repeat (first | exact (Kd.C_below HR0_0.out HB.out) | with_reducible first | refine Kd.C_alloc ?_ _ | refine Kd.C_drewN ?_ _ | refine Kd.C_drew ?_)); (case side2 => exact HC0_0.out); rintro e w20 ⟨v229, v232, rfl, ho0, ho1, hb⟩; refine ⟨_, rfl, ?_⟩; have HO230 := Aside0.mk (Kd.R_lower ho0 (below_size (bq_ HB))); have HO233 := Aside0.mk (Kd.R_lower ho1 (below_size (bq_ HB))); replace BK224 := ba_ BK224 hb; replace BK225 := ba_ BK225 hb; replace HB := hb_ HB hb; (try clear hb); (try clear hb2); (try clear hk); (try clear hi); (try clear ho0); (try clear ho1); have hcz21_0 : w20.cell? ⟨gb224, 0, none⟩ = some (.slice A0_0 l0_0.length c0_0) := (blk_cell BK224.out 0).trans rfl; have hfz21_0 := blk_frozen BK224.out 0; have p234 : 0 ≤ (0 : Int) := (by omega); have q234 : 0 < (l0_0.length : Int) := od_; obtain ⟨ad234, e234, hx234_0, hx234_1, hx234_2, hx234_3, hx234_4, hx234_5, hx234_6, hx234_7, hx234_8, hx234_9⟩ := at_T46 HR0_0.out 0 p234 q234; cases e234; have qi234 : (0 < l0_0.length) = True := eq_true (by omega); (try rw [show ((0 : Int)).toNat = 0 from rfl] at hx234_0); (try rw [show 0 * 10 = 0 from rfl] at hx234_0); (try rw [Addr.add_zero'] at hx234_0); (try rw [show ((0 : Int)).toNat = 0 from rfl] at hx234_1); (try rw [show 0 * 10 = 0 from rfl] at hx234_1); (try rw [Addr.add_zero'] at hx234_1); (try rw [show ((0 : Int)).toNat = 0 from rfl] at hx234_2); (try rw [show 0 * 10 = 0 from rfl] at hx234_2); (try rw [Addr.add_zero'] at hx234_2); (try rw [show ((0 : Int)).toNat = 0 from rfl] at hx234_3); (try rw [show 0 * 10 = 0 from rfl] at hx234_3); (try rw [Addr.add_zero'] at hx234_3); (try rw [show ((0 : Int)).toNat = 0 from rfl] at hx234_4); (try rw [show 0 * 10 = 0 from rfl] at hx234_4); (try rw [Addr.add_zero'] at hx234_4); (try rw [show ((0 : Int)).toNat = 0 from rfl] at hx234_5); (try rw [show 0 * 10 = 0 from rfl] at hx234_5); (try rw [Addr.add_zero'] at hx234_5); (try rw [show ((0 : Int)).toNat = 0 from rfl] at hx234_6); (try rw [show 0 * 10 = 0 from rfl] at hx234_6); (try rw [Addr.add_zero'] at hx234_6); (try rw [show ((0 : Int)).toNat = 0 from rfl] at hx234_7); (try rw [show 0 * 10 = 0 from rfl] at hx234_7); (try rw [Addr.add_zero'] at hx234_7); (try rw [show ((0 : Int)).toNat = 0 from rfl] at hx234_8); (try rw [show 0 * 10 = 0 from rfl] at hx234_8); (try rw [Addr.add_zero'] at hx234_8); (try rw [show ((0 : Int)).toNat = 0 from rfl] at hx234_9); (try rw [show 0 * 10 = 0 from rfl] at hx234_9); (try rw [Addr.add_zero'] at hx234_9); replace hx234_0 := ce_ HB.out hx234_0; replace hx234_1 := ce_ HB.out hx234_1; replace hx234_2 := ce_ HB.out hx234_2; replace hx234_3 := ce_ HB.out hx234_3; replace hx234_4 := ce_ HB.out hx234_4; replace hx234_5 := ce_ HB.out hx234_5; replace hx234_6 := ce_ HB.out hx234_6; replace hx234_7 := ce_ HB.out hx234_7; replace hx234_8 := ce_ HB.out hx234_8; replace hx234_9 := ce_ HB.out hx234_9; replace p234 := eq_true p234; replace q234 := eq_true q234) | ((with_reducible refine gate_dst (N := 8) rfl ?_); (try (refine gate_guard (by rfl) ?_; dsimp only)); refine be_ 8 46 (#[.int .i64 0, .int .i64 0, .bool false, .int .i64 0, .int .i64 0, .int .i64 0, .int .i64 0, .int .i64 0, .int .i64 0, .string (⟨#[]⟩ : ByteArray)]) ?_; intro gb235 hg w22 hbox hb; replace HO230 := ra_ HO230 hb; replace HO233 := ra_ HO233 hb; have BK235 := Aside0.mk (hbox); have GW235 := ge_ HB hg; have GE235 := ge_ HB hg; replace HB := hb_ HB hb; have NB224_235 := nl_ BK224 hg; have NB235_224 := ng_ BK224 hg; replace BK224 := ba_ BK224 hb; have NB225_235 := nl_ BK225 hg; have NB235_225 := ng_ BK225 hg; replace BK225 := ba_ BK225 hb; clear hb hbox hg; have hnb23 := NB235_224.out; have hnc23 := NB224_235.out; have hnb24 := NB235_225.out; have hnc24 := NB225_235.out; obtain ⟨hcz25_0, hcz25_1, hcz25_2, hcz25_3, hcz25_4, hcz25_5, hcz25_6, hcz25_7, hcz25_8, hcz25_9, hfz25_0, hfz25_1, hfz25_2, hfz25_3, hfz25_4, hfz25_5, hfz25_6, hfz25_7, hfz25_8, hfz25_9⟩ := cf10 BK235.out; have hcz26_0 : w22.cell? ⟨gb224, 0, none⟩ = some (.slice (some ad234) l0_0.length c0_0) := (blk_cell BK224.out 0).trans rfl; have hfz26_0 := blk_frozen BK224.out 0))
     go_loopg [41] kj2 (fun kq v41 w' => ∃ (x41_2 : Int) (x236006_2 : Int), v41 = .int .i64 x41_2 ∧ Aside0 (spec_WholeOf.l0 kq t228 l0_0 (l0_0.length : Int) x41_2 ((rd_T46 l0_0 0).f0) ((rd_T46 l0_0 0).f1) ((rd_T46 l0_0 0).f2) ((rd_T46 l0_0 0).f3) ((rd_T46 l0_0 0).f4) ((rd_T46 l0_0 0).f5) x236006_2 ((rd_T46 l0_0 0).f7) ((rd_T46 l0_0 0).f8) ((rd_T46 l0_0 0).f9) = some (r1, r2, r3, r4, r5, r6, r7, r8, r9, r10, r11)) ∧ Aside0 (kq ≤ kj2) ∧ Aside0 (Kd.R (Kd.int .u8) 5 w' w.heap.size (fun _ => True) v229 t228) ∧ Aside0 (w'.heap[gb224]? = some (.cells #[(.slice (some ad234) l0_0.length c0_0)] 29 (0, 0))) ∧ Aside0 (w'.heap[gb225]? = some (.cells #[.int .i64 0, .int .i64 0, .bool false, .int .i64 0, .int .i64 0, .int .i64 0, .int .i64 0, .int .i64 0, .int .i64 0, .string (⟨#[]⟩ : ByteArray)] 46 (0, 0))) ∧ Aside0 (w'.heap[gb235]? = some (.cells #[.int .i64 ((rd_T46 l0_0 0).f0), .int .i64 ((rd_T46 l0_0 0).f1), .bool ((rd_T46 l0_0 0).f2), .int .i64 ((rd_T46 l0_0 0).f3), .int .i64 ((rd_T46 l0_0 0).f4), .int .i64 ((rd_T46 l0_0 0).f5), .int .i64 x236006_2, .int .i64 ((rd_T46 l0_0 0).f7), .int .i64 ((rd_T46 l0_0 0).f8), .string ((rd_T46 l0_0 0).f9)] 46 (0, 0))) ∧ Aside0 (Below w.heap.size w w'))
     case atStart => exact ⟨(0), ((rd_T46 l0_0 0).f6), fs_, H', ⟨Nat.le_refl _⟩, ⟨by (with_reducible repeat (first | apply Kd.R_alloc | apply Kd.R_drewN | apply Kd.R_drew)); exact Kd.R_mono (Kd.R_far (p := ⟨gb235, 9, none⟩) (Kd.R_far (p := ⟨gb235, 8, none⟩) (Kd.R_far (p := ⟨gb235, 7, none⟩) (Kd.R_far (p := ⟨gb235, 6, none⟩) (Kd.R_far (p := ⟨gb235, 5, none⟩) (Kd.R_far (p := ⟨gb235, 4, none⟩) (Kd.R_far (p := ⟨gb235, 3, none⟩) (Kd.R_far (p := ⟨gb235, 2, none⟩) (Kd.R_far (p := ⟨gb235, 1, none⟩) (Kd.R_far (p := ⟨gb235, 0, none⟩) (Kd.R_types HO230.out BK235.out (by decide)) (fun _ hk => hk.2) (.int .i64 ((rd_T46 l0_0 0).f0))) (fun _ hk => hk.2) (.int .i64 ((rd_T46 l0_0 0).f1))) (fun _ hk => hk.2) (.bool ((rd_T46 l0_0 0).f2))) (fun _ hk => hk.2) (.int .i64 ((rd_T46 l0_0 0).f3))) (fun _ hk => hk.2) (.int .i64 ((rd_T46 l0_0 0).f4))) (fun _ hk => hk.2) (.int .i64 ((rd_T46 l0_0 0).f5))) (fun _ hk => hk.2) (.int .i64 ((rd_T46 l0_0 0).f6))) (fun _ hk => hk.2) (.int .i64 ((rd_T46 l0_0 0).f7))) (fun _ hk => hk.2) (.int .i64 ((rd_T46 l0_0 0).f8))) (fun _ hk => hk.2) (.string ((rd_T46 l0_0 0).f9))) (fun _ hk => trivial)⟩, ⟨by (with_reducible repeat (first | refine blk_drewN ?_ _ | refine blk_drew ?_ | refine blk_alloc ?_ _)); (iterate 10 refine blk_far ?_ NB224_235.out _); (with_reducible repeat (first | refine blk_drewN ?_ _ | refine blk_drew ?_ | refine blk_alloc ?_ _)); exact BK224.out⟩, ⟨by (with_reducible repeat (first | refine blk_drewN ?_ _ | refine blk_drew ?_ | refine blk_alloc ?_ _)); (iterate 10 refine blk_far ?_ NB225_235.out _); (with_reducible repeat (first | refine blk_drewN ?_ _ | refine blk_drew ?_ | refine blk_alloc ?_ _)); exact BK225.out⟩, ⟨pb10_⟩, ⟨bq_ HB⟩⟩
     case round =>
      clear H'; try clear c1
      try clear c2
      try clear p2
      try clear q2
      try clear hx2
      try clear qi2
      try clear c5
      try clear c6
      try clear c9
      try clear c10
      try clear c10b0
      try clear c11
      try clear c13
      try clear c14
      try clear c17
      try clear c17b0
      try clear c17b1
      try clear c18
      try clear c21
      try clear c23
      try clear p23
      try clear q23
      try clear hx23
      try clear qi23
      try clear c24
      try clear hcz12_0
      try clear hcz15_0
      try clear hcz15_1
      try clear hcz15_2
      try clear hcz15_3
      try clear hcz15_4
      try clear hcz15_5
      try clear hcz15_6
      try clear hcz15_7
      try clear hcz15_8
      try clear hcz15_9
      try clear hcz19_0
      try clear hcz21_0
      try clear hcz25_0
      try clear hcz25_1
      try clear hcz25_2
      try clear hcz25_3
      try clear hcz25_4
      try clear hcz25_5
      try clear hcz25_6
      try clear hcz25_7
      try clear hcz25_8
      try clear hcz25_9
      try clear hcz26_0
      try clear hcz7_0
      try clear hfz12_0
      try clear hfz15_0
      try clear hfz15_1
      try clear hfz15_2
      try clear hfz15_3
      try clear hfz15_4
      try clear hfz15_5
      try clear hfz15_6
      try clear hfz15_7
      try clear hfz15_8
      try clear hfz15_9
      try clear hfz19_0
      try clear hfz21_0
      try clear hfz25_0
      try clear hfz25_1
      try clear hfz25_2
      try clear hfz25_3
      try clear hfz25_4
      try clear hfz25_5
      try clear hfz25_6
      try clear hfz25_7
      try clear hfz25_8
      try clear hfz25_9
      try clear hfz26_0
      try clear hfz7_0
      try clear hx234_0
      try clear hx234_1
      try clear hx234_2
      try clear hx234_3
      try clear hx234_4
      try clear hx234_5
      try clear hx234_6
      try clear hx234_7
      try clear hx234_8
      try clear hx234_9
      try clear p2
      try clear p234
      try clear q234
      obtain ⟨x41_2, x236006_2, rfl, HA, HK2, HO_6, BK224, BK225, BK235, HB⟩ := hrel; cases gk with
      | zero => exact absurd HA.out (by simp [spec_WholeOf.l0])
      | succ k2 =>
       have H := HA.out; clear HA; simp only [spec_WholeOf.l0] at H; by_cases c27 : x41_2 < (l0_0.length : Int)
       ·rw [if_pos c27] at H; have c27b0 : decide (x41_2 < (l0_0.length : Int)) = true := decide_eq_true c27; clear c27; by_cases c28 : 0 ≤ x41_2
        ·rw [if_pos c28] at H; have c28b0 : decide (0 ≤ x41_2) = true := decide_eq_true c28; clear c28; by_cases c29 : x41_2 < (l0_0.length : Int)
         ·rw [if_pos c29] at H; have c29b0 : decide (x41_2 < (l0_0.length : Int)) = true := decide_eq_true c29; clear c29; by_cases c30 : ((rd_T46 l0_0 x41_2).f6) < x236006_2
          ·rw [if_pos c30] at H; have c30b0 : decide (((rd_T46 l0_0 x41_2).f6) < x236006_2) = true := decide_eq_true c30; clear c30; have H' := Aside0.mk H; clear H; have p236 : 0 ≤ (x41_2 : Int) := od_; have q236 : x41_2 < (l0_0.length : Int) := od_; obtain ⟨ad236, e236, hx236_0, hx236_1, hx236_2, hx236_3, hx236_4, hx236_5, hx236_6, hx236_7, hx236_8, hx236_9⟩ := at_T46 HR0_0.out x41_2 p236 q236; obtain rfl : ad234 = ad236 := (by injection e236)
           replace hx236_0 := ce_ HB.out hx236_0; replace hx236_1 := ce_ HB.out hx236_1; replace hx236_2 := ce_ HB.out hx236_2; replace hx236_3 := ce_ HB.out hx236_3; replace hx236_4 := ce_ HB.out hx236_4; replace hx236_5 := ce_ HB.out hx236_5; replace hx236_6 := ce_ HB.out hx236_6; replace hx236_7 := ce_ HB.out hx236_7; replace hx236_8 := ce_ HB.out hx236_8; replace hx236_9 := ce_ HB.out hx236_9; replace p236 := eq_true p236; replace q236 := eq_true q236; go_wp2_with (first | ((with_reducible refine gate_dst (N := 10) rfl ?_); (try (refine gate_guard (by rfl) ?_; dsimp only)); refine be_ 10 46 (#[.int .i64 0, .int .i64 0, .bool false, .int .i64 0, .int .i64 0, .int .i64 0, .int .i64 0, .int .i64 0, .int .i64 0, .string (⟨#[]⟩ : ByteArray)]) ?_; intro gb237 hg w31 hbox hb; replace HO_6 := ra_ HO_6 hb; have BK237 := Aside0.mk (hbox); have GW237 := ge_ HB hg; have GE237 := ge_ HB hg; replace HB := hb_ HB hb; have NB224_237 := nl_ BK224 hg; have NB237_224 := ng_ BK224 hg; replace BK224 := ba_ BK224 hb; have NB225_237 := nl_ BK225 hg; have NB237_225 := ng_ BK225 hg; replace BK225 := ba_ BK225 hb; have NB235_237 := nl_ BK235 hg; have NB237_235 := ng_ BK235 hg; replace BK235 := ba_ BK235 hb; clear hb hbox hg; have hnb32 := NB237_224.out; have hnc32 := NB224_237.out; have hnb33 := NB237_225.out; have hnc33 := NB225_237.out; have hnb34 := NB237_235.out; have hnc34 := NB235_237.out; obtain ⟨hcz35_0, hcz35_1, hcz35_2, hcz35_3, hcz35_4, hcz35_5, hcz35_6, hcz35_7, hcz35_8, hcz35_9, hfz35_0, hfz35_1, hfz35_2, hfz35_3, hfz35_4, hfz35_5, hfz35_6, hfz35_7, hfz35_8, hfz35_9⟩ := cf10 BK237.out; have hnb36 := NB235_224.out; have hnc36 := NB224_235.out; have hnb37 := NB235_225.out; have hnc37 := NB225_235.out; obtain ⟨hcz38_0, hcz38_1, hcz38_2, hcz38_3, hcz38_4, hcz38_5, hcz38_6, hcz38_7, hcz38_8, hcz38_9, hfz38_0, hfz38_1, hfz38_2, hfz38_3, hfz38_4, hfz38_5, hfz38_6, hfz38_7, hfz38_8, hfz38_9⟩ := cf10 BK235.out)); go_roundg k2
           case measure => have := HJ2.out; have := HK2.out; omega
           case rel => exact ⟨(wrap64 (x41_2 + 1)), ((rd_T46 l0_0 x41_2).f6), fs_, H', ⟨by have := HJ2.out; have := HK2.out; omega⟩, ⟨by (with_reducible repeat (first | apply Kd.R_alloc | apply Kd.R_drewN | apply Kd.R_drew)); exact Kd.R_mono (Kd.R_far (p := ⟨gb235, 6, none⟩) (Kd.R_far (p := ⟨gb237, 9, none⟩) (Kd.R_far (p := ⟨gb237, 8, none⟩) (Kd.R_far (p := ⟨gb237, 7, none⟩) (Kd.R_far (p := ⟨gb237, 6, none⟩) (Kd.R_far (p := ⟨gb237, 5, none⟩) (Kd.R_far (p := ⟨gb237, 4, none⟩) (Kd.R_far (p := ⟨gb237, 3, none⟩) (Kd.R_far (p := ⟨gb237, 2, none⟩) (Kd.R_far (p := ⟨gb237, 1, none⟩) (Kd.R_far (p := ⟨gb237, 0, none⟩) (Kd.R_types (Kd.R_types HO_6.out BK237.out (by decide)) BK235.out (by decide)) (fun _ hk => hk.1.2) (.int .i64 ((rd_T46 l0_0 x41_2).f0))) (fun _ hk => hk.1.2) (.int .i64 ((rd_T46 l0_0 x41_2).f1))) (fun _ hk => hk.1.2) (.bool ((rd_T46 l0_0 x41_2).f2))) (fun _ hk => hk.1.2) (.int .i64 ((rd_T46 l0_0 x41_2).f3))) (fun _ hk => hk.1.2) (.int .i64 ((rd_T46 l0_0 x41_2).f4))) (fun _ hk => hk.1.2) (.int .i64 ((rd_T46 l0_0 x41_2).f5))) (fun _ hk => hk.1.2) (.int .i64 ((rd_T46 l0_0 x41_2).f6))) (fun _ hk => hk.1.2) (.int .i64 ((rd_T46 l0_0 x41_2).f7))) (fun _ hk => hk.1.2) (.int .i64 ((rd_T46 l0_0 x41_2).f8))) (fun _ hk => hk.1.2) (.string ((rd_T46 l0_0 x41_2).f9))) (fun _ hk => hk.2) (.int .i64 ((rd_T46 l0_0 x41_2).f6))) (fun _ hk => trivial)⟩, ⟨by (with_reducible repeat (first | refine blk_drewN ?_ _ | refine blk_drew ?_ | refine blk_alloc ?_ _)); refine blk_far ?_ NB224_235.out _; (with_reducible repeat (first | refine blk_drewN ?_ _ | refine blk_drew ?_ | refine blk_alloc ?_ _)); (iterate 10 refine blk_far ?_ NB224_237.out _); (with_reducible repeat (first | refine blk_drewN ?_ _ | refine blk_drew ?_ | refine blk_alloc ?_ _)); exact BK224.out⟩, ⟨by (with_reducible repeat (first | refine blk_drewN ?_ _ | refine blk_drew ?_ | refine blk_alloc ?_ _)); refine blk_far ?_ NB225_235.out _; (with_reducible repeat (first | refine blk_drewN ?_ _ | refine blk_drew ?_ | refine blk_alloc ?_ _)); (iterate 10 refine blk_far ?_ NB225_237.out _); (with_reducible repeat (first | refine blk_drewN ?_ _ | refine blk_drew ?_ | refine blk_alloc ?_ _)); exact BK225.out⟩, ⟨by (with_reducible repeat (first | refine blk_drewN ?_ _ | refine blk_drew ?_ | refine blk_alloc ?_ _)); refine blk_put (cs := #[.int .i64 ((rd_T46 l0_0 0).f0), .int .i64 ((rd_T46 l0_0 0).f1), .bool ((rd_T46 l0_0 0).f2), .int .i64 ((rd_T46 l0_0 0).f3), .int .i64 ((rd_T46 l0_0 0).f4), .int .i64 ((rd_T46 l0_0 0).f5), .int .i64 x236006_2, .int .i64 ((rd_T46 l0_0 0).f7), .int .i64 ((rd_T46 l0_0 0).f8), .string ((rd_T46 l0_0 0).f9)]) ?_ 6 _ rfl; (with_reducible repeat (first | refine blk_drewN ?_ _ | refine blk_drew ?_ | refine blk_alloc ?_ _)); (iterate 10 refine blk_far ?_ NB235_237.out _); (with_reducible repeat (first | refine blk_drewN ?_ _ | refine blk_drew ?_ | refine blk_alloc ?_ _)); exact BK235.out⟩, ⟨bq_ HB⟩⟩
          ·rw [if_neg c30] at H; have c30b0 : decide (((rd_T46 l0_0 x41_2).f6) < x236006_2) = false := decide_eq_false c30; clear c30; have H' := Aside0.mk H; clear H; have p236 : 0 ≤ (x41_2 : Int) := od_; have q236 : x41_2 < (l0_0.length : Int) := od_; obtain ⟨ad236, e236, hx236_0, hx236_1, hx236_2, hx236_3, hx236_4, hx236_5, hx236_6, hx236_7, hx236_8, hx236_9⟩ := at_T46 HR0_0.out x41_2 p236 q236; obtain rfl : ad234 = ad236 := (by injection e236)
           replace hx236_0 := ce_ HB.out hx236_0; replace hx236_1 := ce_ HB.out hx236_1; replace hx236_2 := ce_ HB.out hx236_2; replace hx236_3 := ce_ HB.out hx236_3; replace hx236_4 := ce_ HB.out hx236_4; replace hx236_5 := ce_ HB.out hx236_5; replace hx236_6 := ce_ HB.out hx236_6; replace hx236_7 := ce_ HB.out hx236_7; replace hx236_8 := ce_ HB.out hx236_8; replace hx236_9 := ce_ HB.out hx236_9; replace p236 := eq_true p236; replace q236 := eq_true q236; go_wp2_with (first | ((with_reducible refine gate_dst (N := 10) rfl ?_); (try (refine gate_guard (by rfl) ?_; dsimp only)); refine be_ 10 46 (#[.int .i64 0, .int .i64 0, .bool false, .int .i64 0, .int .i64 0, .int .i64 0, .int .i64 0, .int .i64 0, .int .i64 0, .string (⟨#[]⟩ : ByteArray)]) ?_; intro gb237 hg w39 hbox hb; replace HO_6 := ra_ HO_6 hb; have BK237 := Aside0.mk (hbox); have GW237 := ge_ HB hg; have GE237 := ge_ HB hg; replace HB := hb_ HB hb; have NB224_237 := nl_ BK224 hg; have NB237_224 := ng_ BK224 hg; replace BK224 := ba_ BK224 hb; have NB225_237 := nl_ BK225 hg; have NB237_225 := ng_ BK225 hg; replace BK225 := ba_ BK225 hb; have NB235_237 := nl_ BK235 hg; have NB237_235 := ng_ BK235 hg; replace BK235 := ba_ BK235 hb; clear hb hbox hg; have hnb40 := NB237_224.out; have hnc40 := NB224_237.out; have hnb41 := NB237_225.out; have hnc41 := NB225_237.out; have hnb42 := NB237_235.out; have hnc42 := NB235_237.out; obtain ⟨hcz43_0, hcz43_1, hcz43_2, hcz43_3, hcz43_4, hcz43_5, hcz43_6, hcz43_7, hcz43_8, hcz43_9, hfz43_0, hfz43_1, hfz43_2, hfz43_3, hfz43_4, hfz43_5, hfz43_6, hfz43_7, hfz43_8, hfz43_9⟩ := cf10 BK237.out; have hnb44 := NB235_224.out; have hnc44 := NB224_235.out; have hnb45 := NB235_225.out; have hnc45 := NB225_235.out; obtain ⟨hcz46_0, hcz46_1, hcz46_2, hcz46_3, hcz46_4, hcz46_5, hcz46_6, hcz46_7, hcz46_8, hcz46_9, hfz46_0, hfz46_1, hfz46_2, hfz46_3, hfz46_4, hfz46_5, hfz46_6, hfz46_7, hfz46_8, hfz46_9⟩ := cf10 BK235.out)); go_roundg k2
           case measure => have := HJ2.out; have := HK2.out; omega
           case rel => exact ⟨(wrap64 (x41_2 + 1)), (x236006_2), fs_, H', ⟨by have := HJ2.out; have := HK2.out; omega⟩, ⟨by (with_reducible repeat (first | apply Kd.R_alloc | apply Kd.R_drewN | apply Kd.R_drew)); exact Kd.R_mono (Kd.R_far (p := ⟨gb237, 9, none⟩) (Kd.R_far (p := ⟨gb237, 8, none⟩) (Kd.R_far (p := ⟨gb237, 7, none⟩) (Kd.R_far (p := ⟨gb237, 6, none⟩) (Kd.R_far (p := ⟨gb237, 5, none⟩) (Kd.R_far (p := ⟨gb237, 4, none⟩) (Kd.R_far (p := ⟨gb237, 3, none⟩) (Kd.R_far (p := ⟨gb237, 2, none⟩) (Kd.R_far (p := ⟨gb237, 1, none⟩) (Kd.R_far (p := ⟨gb237, 0, none⟩) (Kd.R_types HO_6.out BK237.out (by decide)) (fun _ hk => hk.2) (.int .i64 ((rd_T46 l0_0 x41_2).f0))) (fun _ hk => hk.2) (.int .i64 ((rd_T46 l0_0 x41_2).f1))) (fun _ hk => hk.2) (.bool ((rd_T46 l0_0 x41_2).f2))) (fun _ hk => hk.2) (.int .i64 ((rd_T46 l0_0 x41_2).f3))) (fun _ hk => hk.2) (.int .i64 ((rd_T46 l0_0 x41_2).f4))) (fun _ hk => hk.2) (.int .i64 ((rd_T46 l0_0 x41_2).f5))) (fun _ hk => hk.2) (.int .i64 ((rd_T46 l0_0 x41_2).f6))) (fun _ hk => hk.2) (.int .i64 ((rd_T46 l0_0 x41_2).f7))) (fun _ hk => hk.2) (.int .i64 ((rd_T46 l0_0 x41_2).f8))) (fun _ hk => hk.2) (.string ((rd_T46 l0_0 x41_2).f9))) (fun _ hk => trivial)⟩, ⟨by (with_reducible repeat (first | refine blk_drewN ?_ _ | refine blk_drew ?_ | refine blk_alloc ?_ _)); (iterate 10 refine blk_far ?_ NB224_237.out _); (with_reducible repeat (first | refine blk_drewN ?_ _ | refine blk_drew ?_ | refine blk_alloc ?_ _)); exact BK224.out⟩, ⟨by (with_reducible repeat (first | refine blk_drewN ?_ _ | refine blk_drew ?_ | refine blk_alloc ?_ _)); (iterate 10 refine blk_far ?_ NB225_237.out _); (with_reducible repeat (first | refine blk_drewN ?_ _ | refine blk_drew ?_ | refine blk_alloc ?_ _)); exact BK225.out⟩, ⟨by (with_reducible repeat (first | refine blk_drewN ?_ _ | refine blk_drew ?_ | refine blk_alloc ?_ _)); (iterate 10 refine blk_far ?_ NB235_237.out _); (with_reducible repeat (first | refine blk_drewN ?_ _ | refine blk_drew ?_ | refine blk_alloc ?_ _)); exact BK235.out⟩, ⟨bq_ HB⟩⟩
         ·rw [if_neg c29] at H; exact no_ H
        ·rw [if_neg c28] at H; exact no_ H
       ·rw [if_neg c27] at H; have c27b0 : decide (x41_2 < (l0_0.length : Int)) = false := decide_eq_false c27; clear c27; simp only [Option.some.injEq, Prod.mk.injEq] at H; obtain ⟨rfl, rfl, rfl, rfl, rfl, rfl, rfl, rfl, rfl, rfl, rfl⟩ := H; have hnb47 := NB235_224.out; have hnc47 := NB224_235.out; have hnb48 := NB235_225.out; have hnc48 := NB225_235.out; obtain ⟨hcz49_0, hcz49_1, hcz49_2, hcz49_3, hcz49_4, hcz49_5, hcz49_6, hcz49_7, hcz49_8, hcz49_9, hfz49_0, hfz49_1, hfz49_2, hfz49_3, hfz49_4, hfz49_5, hfz49_6, hfz49_7, hfz49_8, hfz49_9⟩ := cf10 BK235.out; have hcv50 := own_string (P := Try.prog) Try.underlying52 Try.underlying5 Try.underlying9 (Kd.own_of_R (Kd.R_far (p := ⟨gb235, 8, none⟩) (Kd.R_far (p := ⟨gb235, 7, none⟩) (Kd.R_types HO_6.out BK235.out (by decide)) (fun _ hk => hk.2) (.int .i64 0)) (fun _ hk => hk.2) (.int .i64 0))); have hnb51 := NB225_224.out; have hnc51 := NB224_225.out; obtain ⟨hcz52_0, hcz52_1, hcz52_2, hcz52_3, hcz52_4, hcz52_5, hcz52_6, hcz52_7, hcz52_8, hcz52_9, hfz52_0, hfz52_1, hfz52_2, hfz52_3, hfz52_4, hfz52_5, hfz52_6, hfz52_7, hfz52_8, hfz52_9⟩ := cf10 BK225.out; go_wp2; refine bodyPost_ret (results_ct rfl _ _ gb225 46 #[.int .i64 ((rd_T46 l0_0 0).f0), .int .i64 ((rd_T46 l0_0 0).f1), .bool ((rd_T46 l0_0 0).f2), .int .i64 ((rd_T46 l0_0 0).f3), .int .i64 ((rd_T46 l0_0 0).f4), .int .i64 ((rd_T46 l0_0 0).f5), .int .i64 x236006_2, .int .i64 0, .int .i64 0, .string (strOfNums t228)] (0, 0) _ rfl (by (with_reducible repeat (first | refine blk_drewN ?_ _ | refine blk_drew ?_ | refine blk_alloc ?_ _)); refine blk_put (cs := #[.int .i64 ((rd_T46 l0_0 0).f0), .int .i64 ((rd_T46 l0_0 0).f1), .bool ((rd_T46 l0_0 0).f2), .int .i64 ((rd_T46 l0_0 0).f3), .int .i64 ((rd_T46 l0_0 0).f4), .int .i64 ((rd_T46 l0_0 0).f5), .int .i64 x236006_2, .int .i64 0, .int .i64 0, .string (⟨#[]⟩ : ByteArray)]) ?_ 9 _ rfl; (with_reducible repeat (first | refine blk_drewN ?_ _ | refine blk_drew ?_ | refine blk_alloc ?_ _)); refine blk_put (cs := #[.int .i64 ((rd_T46 l0_0 0).f0), .int .i64 ((rd_T46 l0_0 0).f1), .bool ((rd_T46 l0_0 0).f2), .int .i64 ((rd_T46 l0_0 0).f3), .int .i64 ((rd_T46 l0_0 0).f4), .int .i64 ((rd_T46 l0_0 0).f5), .int .i64 x236006_2, .int .i64 0, .int .i64 0, .string (⟨#[]⟩ : ByteArray)]) ?_ 8 _ rfl; (with_reducible repeat (first | refine blk_drewN ?_ _ | refine blk_drew ?_ | refine blk_alloc ?_ _)); refine blk_put (cs := #[.int .i64 ((rd_T46 l0_0 0).f0), .int .i64 ((rd_T46 l0_0 0).f1), .bool ((rd_T46 l0_0 0).f2), .int .i64 ((rd_T46 l0_0 0).f3), .int .i64 ((rd_T46 l0_0 0).f4), .int .i64 ((rd_T46 l0_0 0).f5), .int .i64 x236006_2, .int .i64 0, .int .i64 0, .string (⟨#[]⟩ : ByteArray)]) ?_ 7 _ rfl; (with_reducible repeat (first | refine blk_drewN ?_ _ | refine blk_drew ?_ | refine blk_alloc ?_ _)); refine blk_put (cs := #[.int .i64 ((rd_T46 l0_0 0).f0), .int .i64 ((rd_T46 l0_0 0).f1), .bool ((rd_T46 l0_0 0).f2), .int .i64 ((rd_T46 l0_0 0).f3), .int .i64 ((rd_T46 l0_0 0).f4), .int .i64 ((rd_T46 l0_0 0).f5), .int .i64 0, .int .i64 0, .int .i64 0, .string (⟨#[]⟩ : ByteArray)]) ?_ 6 _ rfl; (with_reducible repeat (first | refine blk_drewN ?_ _ | refine blk_drew ?_ | refine blk_alloc ?_ _)); refine blk_put (cs := #[.int .i64 ((rd_T46 l0_0 0).f0), .int .i64 ((rd_T46 l0_0 0).f1), .bool ((rd_T46 l0_0 0).f2), .int .i64 ((rd_T46 l0_0 0).f3), .int .i64 ((rd_T46 l0_0 0).f4), .int .i64 0, .int .i64 0, .int .i64 0, .int .i64 0, .string (⟨#[]⟩ : ByteArray)]) ?_ 5 _ rfl; (with_reducible repeat (first | refine blk_drewN ?_ _ | refine blk_drew ?_ | refine blk_alloc ?_ _)); refine blk_put (cs := #[.int .i64 ((rd_T46 l0_0 0).f0), .int .i64 ((rd_T46 l0_0 0).f1), .bool ((rd_T46 l0_0 0).f2), .int .i64 ((rd_T46 l0_0 0).f3), .int .i64 0, .int .i64 0, .int .i64 0, .int .i64 0, .int .i64 0, .string (⟨#[]⟩ : ByteArray)]) ?_ 4 _ rfl; (with_reducible repeat (first | refine blk_drewN ?_ _ | refine blk_drew ?_ | refine blk_alloc ?_ _)); refine blk_put (cs := #[.int .i64 ((rd_T46 l0_0 0).f0), .int .i64 ((rd_T46 l0_0 0).f1), .bool ((rd_T46 l0_0 0).f2), .int .i64 0, .int .i64 0, .int .i64 0, .int .i64 0, .int .i64 0, .int .i64 0, .string (⟨#[]⟩ : ByteArray)]) ?_ 3 _ rfl; (with_reducible repeat (first | refine blk_drewN ?_ _ | refine blk_drew ?_ | refine blk_alloc ?_ _)); refine blk_put (cs := #[.int .i64 ((rd_T46 l0_0 0).f0), .int .i64 ((rd_T46 l0_0 0).f1), .bool false, .int .i64 0, .int .i64 0, .int .i64 0, .int .i64 0, .int .i64 0, .int .i64 0, .string (⟨#[]⟩ : ByteArray)]) ?_ 2 _ rfl; (with_reducible repeat (first | refine blk_drewN ?_ _ | refine blk_drew ?_ | refine blk_alloc ?_ _)); refine blk_put (cs := #[.int .i64 ((rd_T46 l0_0 0).f0), .int .i64 0, .bool false, .int .i64 0, .int .i64 0, .int .i64 0, .int .i64 0, .int .i64 0, .int .i64 0, .string (⟨#[]⟩ : ByteArray)]) ?_ 1 _ rfl; (with_reducible repeat (first | refine blk_drewN ?_ _ | refine blk_drew ?_ | refine blk_alloc ?_ _)); refine blk_put (cs := #[.int .i64 0, .int .i64 0, .bool false, .int .i64 0, .int .i64 0, .int .i64 0, .int .i64 0, .int .i64 0, .int .i64 0, .string (⟨#[]⟩ : ByteArray)]) ?_ 0 _ rfl; (with_reducible repeat (first | refine blk_drewN ?_ _ | refine blk_drew ?_ | refine blk_alloc ?_ _)); (iterate 3 refine blk_far ?_ NB225_235.out _); (with_reducible repeat (first | refine blk_drewN ?_ _ | refine blk_drew ?_ | refine blk_alloc ?_ _)); exact BK225.out) Try.underlying46 rfl (by kernel_rfl)) rfl ?_; exact ⟨er_, bq_ HB⟩
    ·rw [if_neg c17] at H; exact no_ H
end Go.Proofs.Ytlkbbolkadkedaa.QFnCovers
