import Derived.Test.YtaffjcaohbkmoaaQFnBundlesx0
import Derived.Test.YtaffjcaohbkmoaaQFnBundlesx6
import Derived.Test.YtaffjcaohbkmoaaSq
namespace Go.Proofs.Ytaffjcaohbkmoaa.QFnBundles
open Go.RowKit Go.Proofs.YtaffjcaohbkmoaaW.PrintWords Go.Proofs.YtaffjcaohbkmoaaW.PrintLast Go.Proofs.YtaffjcaohbkmoaaW.PrintMore
attribute [local go_sem] max2_int min2_int max_two min_two max_three min_three max_four min_four   -- for this text's walks alone
set_option linter.unusedVariables false
set_option linter.unusedSimpArgs false
def spec_l2Bytes.l0 : Nat → ByteArray → List (S67) → Int → Int → Option (ByteArray)
 | 0, _, _, _, _ => none
 | k + 1, x3, x6, x7, x8 => if x8 < x7 then (if 0 ≤ x8 then (if x8 < (x6.length : Int) then (if ((rd_T67 x6 x8).f0) = 1 then ((spec_l2Head.f k 0 ((rd_T67 x6 x8).f1)).bind fun t278 => (if x3.size + t278.size ≤ 9223372036854775807 then (spec_l2Bytes.l0 k (x3 ++ t278) x6 x7 (wrap64 (x8 + 1))) else (none))) else (if ((rd_T67 x6 x8).f0) = 2 then ((spec_l2Head.f k 2 (((rd_T67 x6 x8).f2).size : Int)).bind fun t279 => (if t279.size + ((rd_T67 x6 x8).f2).size ≤ 9223372036854775807 then (if x3.size + (t279.size + ((rd_T67 x6 x8).f2).size) ≤ 9223372036854775807 then (spec_l2Bytes.l0 k (x3 ++ (t279 ++ ((rd_T67 x6 x8).f2))) x6 x7 (wrap64 (x8 + 1))) else (none)) else (none))) else (if ((rd_T67 x6 x8).f0) = 3 then ((spec_l2Head.f k 3 (((rd_T67 x6 x8).f2).size : Int)).bind fun t280 => (if t280.size + ((rd_T67 x6 x8).f2).size ≤ 9223372036854775807 then (if x3.size + (t280.size + ((rd_T67 x6 x8).f2).size) ≤ 9223372036854775807 then (spec_l2Bytes.l0 k (x3 ++ (t280 ++ ((rd_T67 x6 x8).f2))) x6 x7 (wrap64 (x8 + 1))) else (none)) else (none))) else ((spec_l2Head.f k 4 ((rd_T67 x6 x8).f3)).bind fun t281 => (if x3.size + t281.size ≤ 9223372036854775807 then (spec_l2Bytes.l0 k (x3 ++ t281) x6 x7 (wrap64 (x8 + 1))) else (none)))))) else (none)) else (none)) else (some x3)
def spec_l2Bytes.f (k : Nat) (l0 : List (S67)) : Option (ByteArray) := spec_l2Bytes.l0 k (⟨#[]⟩ : ByteArray) l0 (l0.length : Int) 0
theorem spec_l2Bytes.mono_l : ∀ k, (∀ y0 y1 y2 y3, LeO (spec_l2Bytes.l0 k y0 y1 y2 y3) (spec_l2Bytes.l0 (k + 1) y0 y1 y2 y3))
 | 0 => fun _ _ _ _ r h => by simp [spec_l2Bytes.l0] at h
 | k + 1 => by
  have ih0 := spec_l2Bytes.mono_l k
  ·intro y0 y1 y2 y3; unfold spec_l2Bytes.l0
   repeat' first
   | (with_reducible exact ih0 _ _ _ _)
   | (with_reducible exact spec_l2Head.mono _ _ _)
   | (with_reducible exact LeO.refl _)
   | (with_reducible exact LeO.none _)
   | (with_reducible refine LeO.ite ?_ ?_)
   | (with_reducible refine LeO.bind ?_ (fun _ => ?_))
   | exact ih0 _ _ _ _
   | exact spec_l2Head.mono _ _ _
   | exact LeO.none _
   | refine LeO.ite ?_ ?_
   | refine LeO.bind ?_ (fun _ => ?_)
theorem spec_l2Bytes.mono : ∀ a0 k, LeO (spec_l2Bytes.f k a0) (spec_l2Bytes.f (k + 1) a0) := by
 intro a0 k; have ih0 := spec_l2Bytes.mono_l k; unfold spec_l2Bytes.f
 repeat' first
   | (with_reducible exact ih0 _ _ _ _)
   | (with_reducible exact spec_l2Head.mono _ _ _)
   | (with_reducible exact LeO.refl _)
   | (with_reducible exact LeO.none _)
   | (with_reducible refine LeO.ite ?_ ?_)
   | (with_reducible refine LeO.bind ?_ (fun _ => ?_))
   | exact ih0 _ _ _ _
   | exact spec_l2Head.mono _ _ _
   | exact LeO.none _
   | refine LeO.ite ?_ ?_
   | refine LeO.bind ?_ (fun _ => ?_)
def spec_l2Bytes.T10 : Bool × List (List Nat × List Nat) := (true, [([], []), ([], []), ([1], [1]), ([2], [2]), ([3], [3]), ([], []), ([5], [5]), ([4, 6], [4, 6]), ([0, 7], [0, 7]), ([8, 4, 0, 1, 2, 3, 4, 5, 6, 7, 8], [0, 8])])
def spec_l2Bytes.B10 : List Nat := [0, 0, 2, 6, 14, 0, 32, 126, 255, 511]
theorem spec_l2Bytes.tab10 : rtab .any (opsOf Try.f65 10) = spec_l2Bytes.T10 := by kernel_rfl
theorem spec_l2Bytes.bits10 : waitsOk spec_l2Bytes.T10.2 spec_l2Bytes.B10 = true := by kernel_rfl
def spec_l2Bytes.T12 : Bool × List (List Nat × List Nat) := (true, [([], []), ([], []), ([1], [1]), ([2], [2]), ([3], [3]), ([], []), ([5], [5]), ([4, 6], [4, 6]), ([0, 7], [0, 7]), ([8, 4, 0, 1, 2, 3, 4, 5, 6, 7, 8], [0, 8])])
def spec_l2Bytes.B12 : List Nat := [0, 0, 2, 6, 14, 0, 32, 126, 255, 511]
theorem spec_l2Bytes.tab12 : rtab .any (opsOf Try.f65 12) = spec_l2Bytes.T12 := by kernel_rfl
theorem spec_l2Bytes.bits12 : waitsOk spec_l2Bytes.T12.2 spec_l2Bytes.B12 = true := by kernel_rfl
set_option maxHeartbeats 8000000 in
set_option maxRecDepth 100000 in
theorem spec_l2Bytes.calls (k : Nat) (A0 : Option Addr) (c0 : Nat) (l0 : List (S67)) (r : ByteArray) (w : World) (hr0 : Kd.C k67 w A0 l0.length l0) (hc0 : l0.length ≤ c0) (h : spec_l2Bytes.f k l0 = some r) :
  Calls Try.prog 65 #[.slice A0 l0.length c0] w fun e w' => e = .returned (.string r) ∧ Below w.heap.size w w' := by
 have hu67 := Try.underlying67; have HR0 := Aside0.mk hr0; have HC0 := Aside0.mk hc0; clear hr0 hc0; have HB := Aside0.mk (Below.refl w.heap.size w); have H : (spec_l2Bytes.l0 k (⟨#[]⟩ : ByteArray) l0 (l0.length : Int) 0) = some r := h; clear h; have H' := Aside0.mk H; clear H
 go_enter Try.func65, Try.ntmps65
 go_wp2
 go_loopg [3, 8] k (fun kq v3 v8 w' => ∃ (x3_1 : ByteArray) (x8_1 : Int), v3 = .string x3_1 ∧ v8 = .int .i64 x8_1 ∧ Aside0 (spec_l2Bytes.l0 kq x3_1 l0 (l0.length : Int) x8_1 = some r) ∧ Aside0 (kq ≤ k) ∧ Aside0 (Below w.heap.size w w'))
 case atStart => exact ⟨((⟨#[]⟩ : ByteArray)), (0), fs_, fs_, H', ⟨Nat.le_refl _⟩, ⟨bq_ HB⟩⟩
 case round =>
  clear H'; obtain ⟨x3_1, x8_1, rfl, rfl, HA, HK1, HB⟩ := hrel; cases gk with
  | zero => exact absurd HA.out (by simp [spec_l2Bytes.l0])
  | succ k1 =>
   have H := HA.out; clear HA; simp only [spec_l2Bytes.l0] at H; by_cases c2 : x8_1 < (l0.length : Int)
   ·rw [if_pos c2] at H; have c2b0 : decide (x8_1 < (l0.length : Int)) = true := decide_eq_true c2; clear c2; by_cases c3 : 0 ≤ x8_1
    ·rw [if_pos c3] at H; have c3b0 : decide (0 ≤ x8_1) = true := decide_eq_true c3; clear c3; by_cases c4 : x8_1 < (l0.length : Int)
     ·rw [if_pos c4] at H; have c4b0 : decide (x8_1 < (l0.length : Int)) = true := decide_eq_true c4; clear c4; by_cases c5 : ((rd_T67 l0 x8_1).f0) = 1
      ·rw [if_pos c5] at H; have c5b0 : (((rd_T67 l0 x8_1).f0) == 1) = true := beq_iff_eq.mpr c5; have c5b1 : (((rd_T67 l0 x8_1).f0) != 1) = false := bne_eq_false_iff_eq.mpr c5; clear c5; replace H := Option.bind_eq_some_iff.mp H; obtain ⟨t278, A60, H⟩ := H; replace H : (if x3_1.size + t278.size ≤ 9223372036854775807 then (spec_l2Bytes.l0 k1 (x3_1 ++ t278) l0 (l0.length : Int) (wrap64 (x8_1 + 1))) else (none)) = some r := H; have A6 := Aside0.mk A60; clear A60; by_cases c7 : x3_1.size + t278.size ≤ 9223372036854775807
       ·rw [if_pos c7] at H; have c7b0 := eq_true c7; have c7b1 : decide (x3_1.size + t278.size ≤ 9223372036854775807) = true := decide_eq_true c7; try have c7b2 : (9223372036854775807 < x3_1.size + t278.size) = False := eq_false (Nat.not_lt.2 c7)
        have H' := Aside0.mk H; clear H; have p276 : 0 ≤ (x8_1 : Int) := od_; have q276 : x8_1 < (l0.length : Int) := od_; obtain ⟨ad276, e276, hx276_0, hx276_1, hx276_2, hx276_3⟩ := at_T67 HR0.out x8_1 p276 q276; cases e276; replace hx276_0 := ce_ HB.out hx276_0; replace hx276_1 := ce_ HB.out hx276_1; replace hx276_2 := ce_ HB.out hx276_2; replace hx276_3 := ce_ HB.out hx276_3; replace p276 := eq_true p276; replace q276 := eq_true q276; go_wp2_with (first | ((with_reducible refine gate_dst (N := 5) rfl ?_); refine be_ 5 67 (#[.int .i64 0, .int .i64 0, .string (⟨#[]⟩ : ByteArray), .int .i64 0]) ?_; intro gb277 hg w8 hbox hb; have n0_ := Aside0.mk (bs_ hb); have n1_ := Aside0.mk (hbox); have n2_ := Aside0.mk ((by rw [hg]; exact bz_ : w.heap.size ≤ gb277)); have n3_ := Aside0.mk ((by rw [hg]; exact bz_ : w.heap.size ≤ gb277)); clear HB; have HB := n0_; have BK277 := n1_; have GW277 := n2_; have GE277 := n3_; clear n0_ n1_ n2_ n3_; clear hb hbox hg; obtain ⟨hcz9_0, hcz9_1, hcz9_2, hcz9_3, hfz9_0, hfz9_1, hfz9_2, hfz9_3⟩ := cf4 BK277.out) | ((with_reducible refine gate_callee (f := 88) rfl ?_); refine goesL_ (some 24) rfl rfl Try.func88 (by kernel_rfl) rfl #[.int .i64 0, .int .i64 ((rd_T67 l0 x8_1).f1)] rfl ma_ ?_; (with_reducible refine (spec_l2Head.calls k1 0 ((rd_T67 l0 x8_1).f1) t278 _ A6.out).mono ?_); rintro e w10 ⟨rfl, hb⟩; refine ⟨_, rfl, ?_⟩; have n0_ := Aside0.mk (blk_below (g := gb277) (o := .cells #[.int .i64 ((rd_T67 l0 x8_1).f0), .int .i64 ((rd_T67 l0 x8_1).f1), .string ((rd_T67 l0 x8_1).f2), .int .i64 ((rd_T67 l0 x8_1).f3)] 67 (0, 0)) pb4_ hb); have n1_ := Aside0.mk (below_step (bq_ HB) hb); clear BK277; clear HB; have BK277 := n0_; have HB := n1_; clear n0_ n1_; (try clear hb); (try clear hb2); (try clear hk); (try clear hi))); go_roundg k1
        case measure => have := HK1.out; omega
        case rel => exact ⟨(x3_1 ++ t278), (wrap64 (x8_1 + 1)), fs_, fs_, H', ⟨by have := HK1.out; omega⟩, ⟨bq_ HB⟩⟩
       ·rw [if_neg c7] at H; exact no_ H
      ·rw [if_neg c5] at H; have c5b0 : (((rd_T67 l0 x8_1).f0) == 1) = false := beq_eq_false_iff_ne.mpr c5; have c5b1 : (((rd_T67 l0 x8_1).f0) != 1) = true := bne_iff_ne.mpr c5; by_cases c11 : ((rd_T67 l0 x8_1).f0) = 2
       ·rw [if_pos c11] at H; have c11b0 : (((rd_T67 l0 x8_1).f0) == 2) = true := beq_iff_eq.mpr c11; have c11b1 : (((rd_T67 l0 x8_1).f0) != 2) = false := bne_eq_false_iff_eq.mpr c11; clear c11; replace H := Option.bind_eq_some_iff.mp H; obtain ⟨t279, A120, H⟩ := H; replace H : (if t279.size + ((rd_T67 l0 x8_1).f2).size ≤ 9223372036854775807 then (if x3_1.size + (t279.size + ((rd_T67 l0 x8_1).f2).size) ≤ 9223372036854775807 then (spec_l2Bytes.l0 k1 (x3_1 ++ (t279 ++ ((rd_T67 l0 x8_1).f2))) l0 (l0.length : Int) (wrap64 (x8_1 + 1))) else (none)) else (none)) = some r := H; have A12 := Aside0.mk A120; clear A120; by_cases c13 : t279.size + ((rd_T67 l0 x8_1).f2).size ≤ 9223372036854775807
        ·rw [if_pos c13] at H; have c13b0 := eq_true c13; have c13b1 : decide (t279.size + ((rd_T67 l0 x8_1).f2).size ≤ 9223372036854775807) = true := decide_eq_true c13; try have c13b2 : (9223372036854775807 < t279.size + ((rd_T67 l0 x8_1).f2).size) = False := eq_false (Nat.not_lt.2 c13)
         by_cases c14 : x3_1.size + (t279.size + ((rd_T67 l0 x8_1).f2).size) ≤ 9223372036854775807
         ·rw [if_pos c14] at H; have c14b0 := eq_true c14; have c14b1 : decide (x3_1.size + (t279.size + ((rd_T67 l0 x8_1).f2).size) ≤ 9223372036854775807) = true := decide_eq_true c14; try have c14b2 : (9223372036854775807 < x3_1.size + (t279.size + ((rd_T67 l0 x8_1).f2).size)) = False := eq_false (Nat.not_lt.2 c14)
          have H' := Aside0.mk H; clear H; have p276 : 0 ≤ (x8_1 : Int) := od_; have q276 : x8_1 < (l0.length : Int) := od_; obtain ⟨ad276, e276, hx276_0, hx276_1, hx276_2, hx276_3⟩ := at_T67 HR0.out x8_1 p276 q276; cases e276; replace hx276_0 := ce_ HB.out hx276_0; replace hx276_1 := ce_ HB.out hx276_1; replace hx276_2 := ce_ HB.out hx276_2; replace hx276_3 := ce_ HB.out hx276_3; replace p276 := eq_true p276; replace q276 := eq_true q276; try go_wp2_with (first | ((with_reducible refine gate_dst (N := 5) rfl ?_); refine be_ 5 67 (#[.int .i64 0, .int .i64 0, .string (⟨#[]⟩ : ByteArray), .int .i64 0]) ?_; intro gb277 hg w15 hbox hb; have n0_ := Aside0.mk (bs_ hb); have n1_ := Aside0.mk (hbox); have n2_ := Aside0.mk ((by rw [hg]; exact bz_ : w.heap.size ≤ gb277)); have n3_ := Aside0.mk ((by rw [hg]; exact bz_ : w.heap.size ≤ gb277)); clear HB; have HB := n0_; have BK277 := n1_; have GW277 := n2_; have GE277 := n3_; clear n0_ n1_ n2_ n3_; clear hb hbox hg; obtain ⟨hcz16_0, hcz16_1, hcz16_2, hcz16_3, hfz16_0, hfz16_1, hfz16_2, hfz16_3⟩ := cf4 BK277.out))
          have n0_ : Aside0 (((((w15.setCell ⟨gb277, 0, none⟩ (.int .i64 ((rd_T67 l0 x8_1).f0))).setCell ⟨gb277, 1, none⟩ (.int .i64 ((rd_T67 l0 x8_1).f1))).setCell ⟨gb277, 2, none⟩ (.string ((rd_T67 l0 x8_1).f2))).setCell ⟨gb277, 3, none⟩ (.int .i64 ((rd_T67 l0 x8_1).f3))).heap[gb277]? = some (.cells #[.int .i64 ((rd_T67 l0 x8_1).f0), .int .i64 ((rd_T67 l0 x8_1).f1), .string ((rd_T67 l0 x8_1).f2), .int .i64 ((rd_T67 l0 x8_1).f3)] 67 (0, 0))) := ⟨pb4_⟩
          have n1_ : Aside0 (Below w.heap.size w ((((w15.setCell ⟨gb277, 0, none⟩ (.int .i64 ((rd_T67 l0 x8_1).f0))).setCell ⟨gb277, 1, none⟩ (.int .i64 ((rd_T67 l0 x8_1).f1))).setCell ⟨gb277, 2, none⟩ (.string ((rd_T67 l0 x8_1).f2))).setCell ⟨gb277, 3, none⟩ (.int .i64 ((rd_T67 l0 x8_1).f3)))) := ⟨bq_ HB⟩
          (try clear BK277); (try clear HB); generalize ((((w15.setCell ⟨gb277, 0, none⟩ (.int .i64 ((rd_T67 l0 x8_1).f0))).setCell ⟨gb277, 1, none⟩ (.int .i64 ((rd_T67 l0 x8_1).f1))).setCell ⟨gb277, 2, none⟩ (.string ((rd_T67 l0 x8_1).f2))).setCell ⟨gb277, 3, none⟩ (.int .i64 ((rd_T67 l0 x8_1).f3))) = w17 at n0_ n1_ ⊢; have BK277 := n0_; have HB := n1_; clear n0_ n1_; have n0_ := Aside0.mk (blk_drew BK277.out); have n1_ := Aside0.mk (below_drew1 HB.out); clear BK277; clear HB; have BK277 := n0_; have HB := n1_; clear n0_ n1_; refine start_ (n := 10) (S := fun w' => w'.cell? ⟨gb277, 0, none⟩ = some (.int .i64 ((rd_T67 l0 x8_1).f0)) ∧ w'.cell? ⟨gb277, 1, none⟩ = some (.int .i64 ((rd_T67 l0 x8_1).f1)) ∧ w'.cell? ⟨gb277, 2, none⟩ = some (.string ((rd_T67 l0 x8_1).f2)) ∧ w'.cell? ⟨gb277, 3, none⟩ = some (.int .i64 ((rd_T67 l0 x8_1).f3))) (ds := []) #[false, false, false, false, false, false, false, false, false, false] (by kernel_rfl) rfl rfl ⟨(blk_cell BK277.out 0).trans rfl, (blk_cell BK277.out 1).trans rfl, (blk_cell BK277.out 2).trans rfl, (blk_cell BK277.out 3).trans rfl⟩ (fun hHeld => ?_); refine with_tabW spec_l2Bytes.tab10 spec_l2Bytes.bits10 (fun HT_ HW_ => ?_); generalize w17.drew = w18 at BK277 HB hHeld ⊢; refine pP 0 28 (mB 10 1) HT_ ?_
          refine pP 1 29 (mB 10 3) HT_ ?_
          refine pP 5 33 (mB 10 35) HT_ ?_
          refine tK 2 30 (mB 10 39) HT_ HW_ hHeld ?_
          refine pP 3 31 (mB 10 47) HT_ ?_
          refine tK 6 34 (mB 10 111) HT_ HW_ hHeld ?_
          refine oN 4 (some 32) (mB 10 127) HT_ (fun K hK => ?_); refine goes_ Try.func88 (by kernel_rfl) rfl #[.int .i64 2, .int .i64 (((rd_T67 l0 x8_1).f2).size : Int)] (by rfl) rfl rfl ma_ ?_; with_reducible refine (spec_l2Head.calls k1 2 (((rd_T67 l0 x8_1).f2).size : Int) t279 _ A12.out).mono ?_
          rintro e w19 ⟨rfl, hb⟩
          refine ⟨_, rfl, ?_⟩; have n0_ := Aside0.mk (blk_below (g := gb277) (o := .cells #[.int .i64 ((rd_T67 l0 x8_1).f0), .int .i64 ((rd_T67 l0 x8_1).f1), .string ((rd_T67 l0 x8_1).f2), .int .i64 ((rd_T67 l0 x8_1).f3)] 67 (0, 0)) pq_ hb); have n1_ := Aside0.mk (below_step (bq_ HB) hb); clear BK277; clear HB; have BK277 := n0_; have HB := n1_; clear n0_ n1_; (try clear hb); (try clear hb2); (try clear hk); (try clear hi); refine hK.out _ _ ⟨(blk_cell BK277.out 0).trans rfl, (blk_cell BK277.out 1).trans rfl, (blk_cell BK277.out 2).trans rfl, (blk_cell BK277.out 3).trans rfl⟩ (fun hHeld => ?_); clear hK K; refine nO 32 ?_
          refine pP 7 35 (mB 10 255) HT_ ?_
          refine pP 8 36 (mB 10 511) HT_ ?_
          refine pP 9 3 (mB 10 1023) HT_ ?_
          refine done_ (done_of HT_.out (by kernel_rfl)) ?_; try go_wp2
          go_roundg k1
          case measure => have := HK1.out; omega
          case rel => exact ⟨(x3_1 ++ (t279 ++ ((rd_T67 l0 x8_1).f2))), (wrap64 (x8_1 + 1)), fs_, fs_, H', ⟨by have := HK1.out; omega⟩, ⟨bq_ HB⟩⟩
         ·rw [if_neg c14] at H; exact no_ H
        ·rw [if_neg c13] at H; exact no_ H
       ·rw [if_neg c11] at H; have c11b0 : (((rd_T67 l0 x8_1).f0) == 2) = false := beq_eq_false_iff_ne.mpr c11; have c11b1 : (((rd_T67 l0 x8_1).f0) != 2) = true := bne_iff_ne.mpr c11; by_cases c20 : ((rd_T67 l0 x8_1).f0) = 3
        ·rw [if_pos c20] at H; have c20b0 : (((rd_T67 l0 x8_1).f0) == 3) = true := beq_iff_eq.mpr c20; have c20b1 : (((rd_T67 l0 x8_1).f0) != 3) = false := bne_eq_false_iff_eq.mpr c20; clear c20; replace H := Option.bind_eq_some_iff.mp H; obtain ⟨t280, A210, H⟩ := H; replace H : (if t280.size + ((rd_T67 l0 x8_1).f2).size ≤ 9223372036854775807 then (if x3_1.size + (t280.size + ((rd_T67 l0 x8_1).f2).size) ≤ 9223372036854775807 then (spec_l2Bytes.l0 k1 (x3_1 ++ (t280 ++ ((rd_T67 l0 x8_1).f2))) l0 (l0.length : Int) (wrap64 (x8_1 + 1))) else (none)) else (none)) = some r := H; have A21 := Aside0.mk A210; clear A210; by_cases c22 : t280.size + ((rd_T67 l0 x8_1).f2).size ≤ 9223372036854775807
         ·rw [if_pos c22] at H; have c22b0 := eq_true c22; have c22b1 : decide (t280.size + ((rd_T67 l0 x8_1).f2).size ≤ 9223372036854775807) = true := decide_eq_true c22; try have c22b2 : (9223372036854775807 < t280.size + ((rd_T67 l0 x8_1).f2).size) = False := eq_false (Nat.not_lt.2 c22)
          by_cases c23 : x3_1.size + (t280.size + ((rd_T67 l0 x8_1).f2).size) ≤ 9223372036854775807
          ·rw [if_pos c23] at H; have c23b0 := eq_true c23; have c23b1 : decide (x3_1.size + (t280.size + ((rd_T67 l0 x8_1).f2).size) ≤ 9223372036854775807) = true := decide_eq_true c23; try have c23b2 : (9223372036854775807 < x3_1.size + (t280.size + ((rd_T67 l0 x8_1).f2).size)) = False := eq_false (Nat.not_lt.2 c23)
           have H' := Aside0.mk H; clear H; have p276 : 0 ≤ (x8_1 : Int) := od_; have q276 : x8_1 < (l0.length : Int) := od_; obtain ⟨ad276, e276, hx276_0, hx276_1, hx276_2, hx276_3⟩ := at_T67 HR0.out x8_1 p276 q276; cases e276; replace hx276_0 := ce_ HB.out hx276_0; replace hx276_1 := ce_ HB.out hx276_1; replace hx276_2 := ce_ HB.out hx276_2; replace hx276_3 := ce_ HB.out hx276_3; replace p276 := eq_true p276; replace q276 := eq_true q276; try go_wp2_with (first | ((with_reducible refine gate_dst (N := 5) rfl ?_); refine be_ 5 67 (#[.int .i64 0, .int .i64 0, .string (⟨#[]⟩ : ByteArray), .int .i64 0]) ?_; intro gb277 hg w24 hbox hb; have n0_ := Aside0.mk (bs_ hb); have n1_ := Aside0.mk (hbox); have n2_ := Aside0.mk ((by rw [hg]; exact bz_ : w.heap.size ≤ gb277)); have n3_ := Aside0.mk ((by rw [hg]; exact bz_ : w.heap.size ≤ gb277)); clear HB; have HB := n0_; have BK277 := n1_; have GW277 := n2_; have GE277 := n3_; clear n0_ n1_ n2_ n3_; clear hb hbox hg; obtain ⟨hcz25_0, hcz25_1, hcz25_2, hcz25_3, hfz25_0, hfz25_1, hfz25_2, hfz25_3⟩ := cf4 BK277.out))
           have n0_ : Aside0 (((((w24.setCell ⟨gb277, 0, none⟩ (.int .i64 ((rd_T67 l0 x8_1).f0))).setCell ⟨gb277, 1, none⟩ (.int .i64 ((rd_T67 l0 x8_1).f1))).setCell ⟨gb277, 2, none⟩ (.string ((rd_T67 l0 x8_1).f2))).setCell ⟨gb277, 3, none⟩ (.int .i64 ((rd_T67 l0 x8_1).f3))).heap[gb277]? = some (.cells #[.int .i64 ((rd_T67 l0 x8_1).f0), .int .i64 ((rd_T67 l0 x8_1).f1), .string ((rd_T67 l0 x8_1).f2), .int .i64 ((rd_T67 l0 x8_1).f3)] 67 (0, 0))) := ⟨pb4_⟩
           have n1_ : Aside0 (Below w.heap.size w ((((w24.setCell ⟨gb277, 0, none⟩ (.int .i64 ((rd_T67 l0 x8_1).f0))).setCell ⟨gb277, 1, none⟩ (.int .i64 ((rd_T67 l0 x8_1).f1))).setCell ⟨gb277, 2, none⟩ (.string ((rd_T67 l0 x8_1).f2))).setCell ⟨gb277, 3, none⟩ (.int .i64 ((rd_T67 l0 x8_1).f3)))) := ⟨bq_ HB⟩
           (try clear BK277); (try clear HB); generalize ((((w24.setCell ⟨gb277, 0, none⟩ (.int .i64 ((rd_T67 l0 x8_1).f0))).setCell ⟨gb277, 1, none⟩ (.int .i64 ((rd_T67 l0 x8_1).f1))).setCell ⟨gb277, 2, none⟩ (.string ((rd_T67 l0 x8_1).f2))).setCell ⟨gb277, 3, none⟩ (.int .i64 ((rd_T67 l0 x8_1).f3))) = w26 at n0_ n1_ ⊢; have BK277 := n0_; have HB := n1_; clear n0_ n1_; have n0_ := Aside0.mk (blk_drew BK277.out); have n1_ := Aside0.mk (below_drew1 HB.out); clear BK277; clear HB; have BK277 := n0_; have HB := n1_; clear n0_ n1_; refine start_ (n := 10) (S := fun w' => w'.cell? ⟨gb277, 0, none⟩ = some (.int .i64 ((rd_T67 l0 x8_1).f0)) ∧ w'.cell? ⟨gb277, 1, none⟩ = some (.int .i64 ((rd_T67 l0 x8_1).f1)) ∧ w'.cell? ⟨gb277, 2, none⟩ = some (.string ((rd_T67 l0 x8_1).f2)) ∧ w'.cell? ⟨gb277, 3, none⟩ = some (.int .i64 ((rd_T67 l0 x8_1).f3))) (ds := []) #[false, false, false, false, false, false, false, false, false, false] (by kernel_rfl) rfl rfl ⟨(blk_cell BK277.out 0).trans rfl, (blk_cell BK277.out 1).trans rfl, (blk_cell BK277.out 2).trans rfl, (blk_cell BK277.out 3).trans rfl⟩ (fun hHeld => ?_); refine with_tabW spec_l2Bytes.tab12 spec_l2Bytes.bits12 (fun HT_ HW_ => ?_); generalize w26.drew = w27 at BK277 HB hHeld ⊢; refine pP 0 39 (mB 10 1) HT_ ?_
           refine pP 1 40 (mB 10 3) HT_ ?_
           refine pP 5 44 (mB 10 35) HT_ ?_
           refine tK 2 41 (mB 10 39) HT_ HW_ hHeld ?_
           refine pP 3 42 (mB 10 47) HT_ ?_
           refine tK 6 45 (mB 10 111) HT_ HW_ hHeld ?_
           refine oN 4 (some 43) (mB 10 127) HT_ (fun K hK => ?_); refine goes_ Try.func88 (by kernel_rfl) rfl #[.int .i64 3, .int .i64 (((rd_T67 l0 x8_1).f2).size : Int)] (by rfl) rfl rfl ma_ ?_; with_reducible refine (spec_l2Head.calls k1 3 (((rd_T67 l0 x8_1).f2).size : Int) t280 _ A21.out).mono ?_
           rintro e w28 ⟨rfl, hb⟩
           refine ⟨_, rfl, ?_⟩; have n0_ := Aside0.mk (blk_below (g := gb277) (o := .cells #[.int .i64 ((rd_T67 l0 x8_1).f0), .int .i64 ((rd_T67 l0 x8_1).f1), .string ((rd_T67 l0 x8_1).f2), .int .i64 ((rd_T67 l0 x8_1).f3)] 67 (0, 0)) pq_ hb); have n1_ := Aside0.mk (below_step (bq_ HB) hb); clear BK277; clear HB; have BK277 := n0_; have HB := n1_; clear n0_ n1_; (try clear hb); (try clear hb2); (try clear hk); (try clear hi); refine hK.out _ _ ⟨(blk_cell BK277.out 0).trans rfl, (blk_cell BK277.out 1).trans rfl, (blk_cell BK277.out 2).trans rfl, (blk_cell BK277.out 3).trans rfl⟩ (fun hHeld => ?_); clear hK K; refine nO 43 ?_
           refine pP 7 46 (mB 10 255) HT_ ?_
           refine pP 8 47 (mB 10 511) HT_ ?_
           refine pP 9 3 (mB 10 1023) HT_ ?_
           refine done_ (done_of HT_.out (by kernel_rfl)) ?_; try go_wp2
           go_roundg k1
           case measure => have := HK1.out; omega
           case rel => exact ⟨(x3_1 ++ (t280 ++ ((rd_T67 l0 x8_1).f2))), (wrap64 (x8_1 + 1)), fs_, fs_, H', ⟨by have := HK1.out; omega⟩, ⟨bq_ HB⟩⟩
          ·rw [if_neg c23] at H; exact no_ H
         ·rw [if_neg c22] at H; exact no_ H
        ·rw [if_neg c20] at H; have c20b0 : (((rd_T67 l0 x8_1).f0) == 3) = false := beq_eq_false_iff_ne.mpr c20; have c20b1 : (((rd_T67 l0 x8_1).f0) != 3) = true := bne_iff_ne.mpr c20; replace H := Option.bind_eq_some_iff.mp H; obtain ⟨t281, A290, H⟩ := H; replace H : (if x3_1.size + t281.size ≤ 9223372036854775807 then (spec_l2Bytes.l0 k1 (x3_1 ++ t281) l0 (l0.length : Int) (wrap64 (x8_1 + 1))) else (none)) = some r := H; have A29 := Aside0.mk A290; clear A290; by_cases c30 : x3_1.size + t281.size ≤ 9223372036854775807
         ·rw [if_pos c30] at H; have c30b0 := eq_true c30; have c30b1 : decide (x3_1.size + t281.size ≤ 9223372036854775807) = true := decide_eq_true c30; try have c30b2 : (9223372036854775807 < x3_1.size + t281.size) = False := eq_false (Nat.not_lt.2 c30)
          have H' := Aside0.mk H; clear H; have p276 : 0 ≤ (x8_1 : Int) := od_; have q276 : x8_1 < (l0.length : Int) := od_; obtain ⟨ad276, e276, hx276_0, hx276_1, hx276_2, hx276_3⟩ := at_T67 HR0.out x8_1 p276 q276; cases e276; replace hx276_0 := ce_ HB.out hx276_0; replace hx276_1 := ce_ HB.out hx276_1; replace hx276_2 := ce_ HB.out hx276_2; replace hx276_3 := ce_ HB.out hx276_3; replace p276 := eq_true p276; replace q276 := eq_true q276; go_wp2_with (first | ((with_reducible refine gate_dst (N := 5) rfl ?_); refine be_ 5 67 (#[.int .i64 0, .int .i64 0, .string (⟨#[]⟩ : ByteArray), .int .i64 0]) ?_; intro gb277 hg w31 hbox hb; have n0_ := Aside0.mk (bs_ hb); have n1_ := Aside0.mk (hbox); have n2_ := Aside0.mk ((by rw [hg]; exact bz_ : w.heap.size ≤ gb277)); have n3_ := Aside0.mk ((by rw [hg]; exact bz_ : w.heap.size ≤ gb277)); clear HB; have HB := n0_; have BK277 := n1_; have GW277 := n2_; have GE277 := n3_; clear n0_ n1_ n2_ n3_; clear hb hbox hg; obtain ⟨hcz32_0, hcz32_1, hcz32_2, hcz32_3, hfz32_0, hfz32_1, hfz32_2, hfz32_3⟩ := cf4 BK277.out) | ((with_reducible refine gate_callee (f := 88) rfl ?_); refine goesL_ (some 17) rfl rfl Try.func88 (by kernel_rfl) rfl #[.int .i64 4, .int .i64 ((rd_T67 l0 x8_1).f3)] rfl ma_ ?_; (with_reducible refine (spec_l2Head.calls k1 4 ((rd_T67 l0 x8_1).f3) t281 _ A29.out).mono ?_); rintro e w33 ⟨rfl, hb⟩; refine ⟨_, rfl, ?_⟩; have n0_ := Aside0.mk (blk_below (g := gb277) (o := .cells #[.int .i64 ((rd_T67 l0 x8_1).f0), .int .i64 ((rd_T67 l0 x8_1).f1), .string ((rd_T67 l0 x8_1).f2), .int .i64 ((rd_T67 l0 x8_1).f3)] 67 (0, 0)) pb4_ hb); have n1_ := Aside0.mk (below_step (bq_ HB) hb); clear BK277; clear HB; have BK277 := n0_; have HB := n1_; clear n0_ n1_; (try clear hb); (try clear hb2); (try clear hk); (try clear hi))); go_roundg k1
          case measure => have := HK1.out; omega
          case rel => exact ⟨(x3_1 ++ t281), (wrap64 (x8_1 + 1)), fs_, fs_, H', ⟨by have := HK1.out; omega⟩, ⟨bq_ HB⟩⟩
         ·rw [if_neg c30] at H; exact no_ H
     ·rw [if_neg c4] at H; exact no_ H
    ·rw [if_neg c3] at H; exact no_ H
   ·rw [if_neg c2] at H; have c2b0 : decide (x8_1 < (l0.length : Int)) = false := decide_eq_false c2; clear c2; obtain rfl := Option.some.inj H; go_wp2; go_ret; exact ⟨er_, bq_ HB⟩
mutual
def spec_l3Items.j0 : Nat → Int → Int → Int → Bool → Int → Int → Int → Int → Int → Int → ByteArray → Option ((List (S67)))
 | 0, _, _, _, _, _, _, _, _, _, _, _ => none
 | k + 1, x3, x283000, x283001, x283002, x283003, x283004, x283005, x283006, x283007, x283008, x283009 => (some (([x283000, x283001, x3, x283003, x283004, x283005, x283006, x283007, x283008] : List Int) : List Int)).bind fun y286 => (spec_l3Items.l0 k (([(⟨4, 0, (⟨#[]⟩ : ByteArray), 10⟩ : S67)] : List (S67))) y286 (y286.length : Int) 0 x283000 x283001 x283002 x283003 x283004 x283005 x283006 x283007 x283008 x283009)
def spec_l3Items.l0 : Nat → List (S67) → List Int → Int → Int → Int → Int → Bool → Int → Int → Int → Int → Int → Int → ByteArray → Option ((List (S67)))
 | 0, _, _, _, _, _, _, _, _, _, _, _, _, _, _ => none
 | k + 1, x4, x28, x29, x30, x283000, x283001, x283002, x283003, x283004, x283005, x283006, x283007, x283008, x283009 => if x30 < x29 then (if 0 ≤ x30 then (if x30 < (x28.length : Int) then (if x4.length < 3518437208883 then (spec_l3Items.l0 k (x4 ++ [(⟨1, rd x28 x30, (⟨#[]⟩ : ByteArray), 0⟩ : S67)]) x28 x29 (wrap64 (x30 + 1)) x283000 x283001 x283002 x283003 x283004 x283005 x283006 x283007 x283008 x283009) else (none)) else (none)) else (none)) else (if x4.length < 3518437208883 then (some (x4 ++ [(⟨2, 0, x283009, 0⟩ : S67)])) else (none))
end
def spec_l3Items.f (k : Nat) (a0_0 : Int) (a0_1 : Int) (a0_2 : Bool) (a0_3 : Int) (a0_4 : Int) (a0_5 : Int) (a0_6 : Int) (a0_7 : Int) (a0_8 : Int) (a0_9 : ByteArray) : Option ((List (S67))) := if a0_2 = true then (spec_l3Items.j0 k 1 a0_0 a0_1 a0_2 a0_3 a0_4 a0_5 a0_6 a0_7 a0_8 a0_9) else (spec_l3Items.j0 k 0 a0_0 a0_1 a0_2 a0_3 a0_4 a0_5 a0_6 a0_7 a0_8 a0_9)
theorem spec_l3Items.mono_l : ∀ k, (∀ y0 y1 y2 y3 y4 y5 y6 y7 y8 y9 y10, LeO (spec_l3Items.j0 k y0 y1 y2 y3 y4 y5 y6 y7 y8 y9 y10) (spec_l3Items.j0 (k + 1) y0 y1 y2 y3 y4 y5 y6 y7 y8 y9 y10)) ∧ (∀ y0 y1 y2 y3 y4 y5 y6 y7 y8 y9 y10 y11 y12 y13, LeO (spec_l3Items.l0 k y0 y1 y2 y3 y4 y5 y6 y7 y8 y9 y10 y11 y12 y13) (spec_l3Items.l0 (k + 1) y0 y1 y2 y3 y4 y5 y6 y7 y8 y9 y10 y11 y12 y13))
 | 0 => ⟨fun _ _ _ _ _ _ _ _ _ _ _ r h => by simp [spec_l3Items.j0] at h, fun _ _ _ _ _ _ _ _ _ _ _ _ _ _ r h => by simp [spec_l3Items.l0] at h⟩
 | k + 1 => by
  obtain ⟨ih0, ih1⟩ := spec_l3Items.mono_l k; refine ⟨?_, ?_⟩
  ·intro y0 y1 y2 y3 y4 y5 y6 y7 y8 y9 y10; unfold spec_l3Items.j0
   repeat' first
   | (with_reducible exact ih0 _ _ _ _ _ _ _ _ _ _ _)
   | (with_reducible exact ih1 _ _ _ _ _ _ _ _ _ _ _ _ _ _)
   | (with_reducible exact LeO.refl _)
   | (with_reducible exact LeO.none _)
   | (with_reducible refine LeO.ite ?_ ?_)
   | (with_reducible refine LeO.bind ?_ (fun _ => ?_))
   | exact ih0 _ _ _ _ _ _ _ _ _ _ _
   | exact ih1 _ _ _ _ _ _ _ _ _ _ _ _ _ _
   | exact LeO.none _
   | refine LeO.ite ?_ ?_
   | refine LeO.bind ?_ (fun _ => ?_)
  ·intro y0 y1 y2 y3 y4 y5 y6 y7 y8 y9 y10 y11 y12 y13; unfold spec_l3Items.l0
   repeat' first
   | (with_reducible exact ih0 _ _ _ _ _ _ _ _ _ _ _)
   | (with_reducible exact ih1 _ _ _ _ _ _ _ _ _ _ _ _ _ _)
   | (with_reducible exact LeO.refl _)
   | (with_reducible exact LeO.none _)
   | (with_reducible refine LeO.ite ?_ ?_)
   | (with_reducible refine LeO.bind ?_ (fun _ => ?_))
   | exact ih0 _ _ _ _ _ _ _ _ _ _ _
   | exact ih1 _ _ _ _ _ _ _ _ _ _ _ _ _ _
   | exact LeO.none _
   | refine LeO.ite ?_ ?_
   | refine LeO.bind ?_ (fun _ => ?_)
theorem spec_l3Items.mono : ∀ a0 a1 a2 a3 a4 a5 a6 a7 a8 a9 k, LeO (spec_l3Items.f k a0 a1 a2 a3 a4 a5 a6 a7 a8 a9) (spec_l3Items.f (k + 1) a0 a1 a2 a3 a4 a5 a6 a7 a8 a9) := by
 intro a0 a1 a2 a3 a4 a5 a6 a7 a8 a9 k; obtain ⟨ih0, ih1⟩ := spec_l3Items.mono_l k; unfold spec_l3Items.f
 repeat' first
   | (with_reducible exact ih0 _ _ _ _ _ _ _ _ _ _ _)
   | (with_reducible exact ih1 _ _ _ _ _ _ _ _ _ _ _ _ _ _)
   | (with_reducible exact LeO.refl _)
   | (with_reducible exact LeO.none _)
   | (with_reducible refine LeO.ite ?_ ?_)
   | (with_reducible refine LeO.bind ?_ (fun _ => ?_))
   | exact ih0 _ _ _ _ _ _ _ _ _ _ _
   | exact ih1 _ _ _ _ _ _ _ _ _ _ _ _ _ _
   | exact LeO.none _
   | refine LeO.ite ?_ ?_
   | refine LeO.bind ?_ (fun _ => ?_)
set_option maxHeartbeats 8000000 in
set_option maxRecDepth 100000 in
theorem spec_l3Items.calls (k : Nat) (a0_0 : Int) (a0_1 : Int) (a0_2 : Bool) (a0_3 : Int) (a0_4 : Int) (a0_5 : Int) (a0_6 : Int) (a0_7 : Int) (a0_8 : Int) (a0_9 : ByteArray) (r : List (S67)) (w : World) (h : spec_l3Items.f k a0_0 a0_1 a0_2 a0_3 a0_4 a0_5 a0_6 a0_7 a0_8 a0_9 = some r) :
  Calls Try.prog 66 #[.agg #[.int .i64 a0_0, .int .i64 a0_1, .bool a0_2, .int .i64 a0_3, .int .i64 a0_4, .int .i64 a0_5, .int .i64 a0_6, .int .i64 a0_7, .int .i64 a0_8, .string a0_9]] w fun e w' => ∃ v0_ : Value, e = .returned (v0_) ∧ Kd.R k67 67 w' w.heap.size (fun _ => True) v0_ r ∧ Below w.heap.size w w' := by
 have hu32 := Try.underlying32; have hu67 := Try.underlying67; have HB := Aside0.mk (Below.refl w.heap.size w); have H : (if a0_2 = true then (spec_l3Items.j0 k 1 a0_0 a0_1 a0_2 a0_3 a0_4 a0_5 a0_6 a0_7 a0_8 a0_9) else (spec_l3Items.j0 k 0 a0_0 a0_1 a0_2 a0_3 a0_4 a0_5 a0_6 a0_7 a0_8 a0_9)) = some r := h; clear h; have HC2 := Aside0.mk H; clear H
 go_enter Try.func66, Try.ntmps66
 go_upto_if 8 with (first | ((with_reducible refine gate_dst (N := 1) rfl ?_); refine be_ 1 32 #[.int .i64 a0_0, .int .i64 a0_1, .bool a0_2, .int .i64 a0_3, .int .i64 a0_4, .int .i64 a0_5, .int .i64 a0_6, .int .i64 a0_7, .int .i64 a0_8, .string a0_9] ?_; intro gb282 hg w3 hbox hb; have n0_ := Aside0.mk (bs_ hb); have n1_ := Aside0.mk (hbox); have n2_ := Aside0.mk ((by rw [hg]; exact bz_ : w.heap.size ≤ gb282)); have n3_ := Aside0.mk ((by rw [hg]; exact bz_ : w.heap.size ≤ gb282)); clear HB; have HB := n0_; have BK282 := n1_; have GW282 := n2_; have GE282 := n3_; clear n0_ n1_ n2_ n3_; clear hb hbox hg; obtain ⟨hcz4_0, hcz4_1, hcz4_2, hcz4_3, hcz4_4, hcz4_5, hcz4_6, hcz4_7, hcz4_8, hcz4_9, hfz4_0, hfz4_1, hfz4_2, hfz4_3, hfz4_4, hfz4_5, hfz4_6, hfz4_7, hfz4_8, hfz4_9⟩ := cf10 BK282.out))
 (try simp only [Act.put, List.setIfInBounds_toArray, List.set_cons_zero, List.set_cons_succ])
 go_cut [3] (fun v3 wc => ∃ (kq : Nat) (x3_1 : Int), v3 = .int .i64 x3_1 ∧ Aside0 (spec_l3Items.j0 kq x3_1 a0_0 a0_1 a0_2 a0_3 a0_4 a0_5 a0_6 a0_7 a0_8 a0_9 = some r) ∧ Aside0 (kq ≤ k) ∧ Aside0 (wc.heap[gb282]? = some (.cells #[.int .i64 a0_0, .int .i64 a0_1, .bool a0_2, .int .i64 a0_3, .int .i64 a0_4, .int .i64 a0_5, .int .i64 a0_6, .int .i64 a0_7, .int .i64 a0_8, .string a0_9] 32 (0, 0))) ∧ Aside0 (Below w.heap.size w wc))
 case first =>
  have H := HC2.out; clear HC2; by_cases c5 : a0_2 = true
  ·subst c5; have H1 : (spec_l3Items.j0 k 1 a0_0 a0_1 true a0_3 a0_4 a0_5 a0_6 a0_7 a0_8 a0_9) = some r := by rw [if_pos rfl] at H; exact H
   clear H; have H := H1; clear H1; have H' := Aside0.mk H; clear H; go_wp2; go_meet
   case rel => exact ⟨_, (1), fs_, H', ⟨by first | omega | exact Nat.le_refl _⟩, ⟨pq_⟩, ⟨bq_ HB⟩⟩
  ·replace c5 := Bool.eq_false_iff.mpr c5; subst c5; have H1 : (spec_l3Items.j0 k 0 a0_0 a0_1 false a0_3 a0_4 a0_5 a0_6 a0_7 a0_8 a0_9) = some r := by rw [if_neg (show ¬ (false = true) by decide)] at H; exact H
   clear H; have H := H1; clear H1; have H' := Aside0.mk H; clear H; go_wp2; go_meet
   case rel => exact ⟨_, (0), fs_, H', ⟨by first | omega | exact Nat.le_refl _⟩, ⟨pq_⟩, ⟨bq_ HB⟩⟩
 case rest =>
  clear HC2; try clear p2
  try clear c5
  try clear hcz4_0
  try clear hcz4_1
  try clear hcz4_2
  try clear hcz4_3
  try clear hcz4_4
  try clear hcz4_5
  try clear hcz4_6
  try clear hcz4_7
  try clear hcz4_8
  try clear hcz4_9
  try clear hfz4_0
  try clear hfz4_1
  try clear hfz4_2
  try clear hfz4_3
  try clear hfz4_4
  try clear hfz4_5
  try clear hfz4_6
  try clear hfz4_7
  try clear hfz4_8
  try clear hfz4_9
  obtain ⟨kq, x3_1, rfl, HA, HJ1, BK282, HB⟩ := hcut; cases kq with
  | zero => exact absurd HA.out (by simp [spec_l3Items.j0])
  | succ kj1 =>
   have H := HA.out; clear HA; simp only [spec_l3Items.j0] at H; obtain ⟨y283, hy283⟩ : ∃ y_ : List (S67), y_ = (([(⟨4, 0, (⟨#[]⟩ : ByteArray), 10⟩ : S67)] : List (S67))) := ⟨_, rfl⟩
   replace H : ((some (([a0_0, a0_1, x3_1, a0_3, a0_4, a0_5, a0_6, a0_7, a0_8] : List Int) : List Int)).bind fun y286 => (spec_l3Items.l0 kj1 y283 y286 (y286.length : Int) 0 a0_0 a0_1 a0_2 a0_3 a0_4 a0_5 a0_6 a0_7 a0_8 a0_9)) = some r := by first | (rw [hy283]; with_reducible exact H) | (have H2_ := (Option.bind_some _ _).symm.trans H; rw [hy283]; with_reducible exact H2_) | (have H2_ := (Option.bind_some _ _).symm.trans H; with_reducible exact H2_) | with_reducible exact H | (rw [hy283]; exact H) | exact H
   have Ny283 := Aside0.mk hy283; clear hy283; obtain ⟨y286, hy286⟩ : ∃ y_ : List Int, y_ = (([a0_0, a0_1, x3_1, a0_3, a0_4, a0_5, a0_6, a0_7, a0_8] : List Int)) := ⟨_, rfl⟩
   replace H : (spec_l3Items.l0 kj1 y283 y286 (y286.length : Int) 0 a0_0 a0_1 a0_2 a0_3 a0_4 a0_5 a0_6 a0_7 a0_8 a0_9) = some r := by first | (rw [hy286]; with_reducible exact H) | (have H2_ := (Option.bind_some _ _).symm.trans H; rw [hy286]; with_reducible exact H2_) | (have H2_ := (Option.bind_some _ _).symm.trans H; with_reducible exact H2_) | with_reducible exact H | (rw [hy286]; exact H) | exact H
   have Ny286 := Aside0.mk hy286; clear hy286; have H' := Aside0.mk H; clear H; go_wp2_with (first | ((with_reducible refine gate_dst (N := 10) rfl ?_); refine Kd.R_lit k67 _ 67 ?hg (N := 10) ?hd (xs := ([(⟨4, 0, (⟨#[]⟩ : ByteArray), 10⟩ : S67)] : List (S67))) (inner := [.int .i64 4, .int .i64 0, .string (⟨#[]⟩ : ByteArray), .int .i64 10]) (ok := fun _ => True) (okp := fun _ => True) ?hr ?hp (fun _ hk => hk) trivial (Below.refl _ _) (Nat.le_refl _) (by simp) ?_; (case hd => rfl); (case hg => rfl); (case hr => first | (go_simp; done) | (go_simp; rfl)); (case hp => exact (Reps.c4 (show Kd.M k67 _ _ _ (⟨4, 0, (⟨#[]⟩ : ByteArray), 10⟩ : S67) [.int .i64 4, .int .i64 0, .string (⟨#[]⟩ : ByteArray), .int .i64 10] from (k67_mkM _ _ _ (⟨4, 0, (⟨#[]⟩ : ByteArray), 10⟩ : S67) )) (Reps.none _ _))); intro v284 w6 ho7 hb hg_ hnew_; clear hg_ hnew_; (first | rw [← Ny283.out] at ho7 | (simp only [Int.reduceToNat] at ho7; rw [← Ny283.out] at ho7)); have n0_ := Aside0.mk (Kd.R_lower ho7 (below_size (bq_ HB))); have n1_ := Aside0.mk (blk_below (g := gb282) (o := .cells #[.int .i64 a0_0, .int .i64 a0_1, .bool a0_2, .int .i64 a0_3, .int .i64 a0_4, .int .i64 a0_5, .int .i64 a0_6, .int .i64 a0_7, .int .i64 a0_8, .string a0_9] 32 (0, 0)) pq_ hb); have n2_ := Aside0.mk (below_step (bq_ HB) hb); clear BK282; clear HB; have HO285 := n0_; have BK282 := n1_; have HB := n2_; clear n0_ n1_ n2_; clear hb ho7; obtain ⟨hcz8_0, hcz8_1, hcz8_2, hcz8_3, hcz8_4, hcz8_5, hcz8_6, hcz8_7, hcz8_8, hcz8_9, hfz8_0, hfz8_1, hfz8_2, hfz8_3, hfz8_4, hfz8_5, hfz8_6, hfz8_7, hfz8_8, hfz8_9⟩ := cf10 BK282.out) | ((with_reducible refine gate_dst (N := 28) rfl ?_); refine Kd.R_lit (Kd.int .i64) _ 3 ?hg (N := 28) ?hd (xs := ([a0_0, a0_1, x3_1, a0_3, a0_4, a0_5, a0_6, a0_7, a0_8] : List Int)) (inner := [.int .i64 a0_0, .int .i64 a0_1, .int .i64 x3_1, .int .i64 a0_3, .int .i64 a0_4, .int .i64 a0_5, .int .i64 a0_6, .int .i64 a0_7, .int .i64 a0_8]) (ok := fun _ => True) (okp := fun _ => True) ?hr ?hp (fun _ hk => hk) trivial (Below.refl _ _) (Nat.le_refl _) (by simp) ?_; (case hd => rfl); (case hg => rfl); (case hr => first | (go_simp; done) | (go_simp; rfl)); (case hp => exact (Reps.one (show Kd.M (Kd.int .i64) _ _ _ a0_0 [.int .i64 a0_0] from rfl) (Reps.one (show Kd.M (Kd.int .i64) _ _ _ a0_1 [.int .i64 a0_1] from rfl) (Reps.one (show Kd.M (Kd.int .i64) _ _ _ x3_1 [.int .i64 x3_1] from rfl) (Reps.one (show Kd.M (Kd.int .i64) _ _ _ a0_3 [.int .i64 a0_3] from rfl) (Reps.one (show Kd.M (Kd.int .i64) _ _ _ a0_4 [.int .i64 a0_4] from rfl) (Reps.one (show Kd.M (Kd.int .i64) _ _ _ a0_5 [.int .i64 a0_5] from rfl) (Reps.one (show Kd.M (Kd.int .i64) _ _ _ a0_6 [.int .i64 a0_6] from rfl) (Reps.one (show Kd.M (Kd.int .i64) _ _ _ a0_7 [.int .i64 a0_7] from rfl) (Reps.one (show Kd.M (Kd.int .i64) _ _ _ a0_8 [.int .i64 a0_8] from rfl) (Reps.none _ _))))))))))); intro v287 w9 ho10 hb hg_ hnew_; clear hg_ hnew_; (first | rw [← Ny286.out] at ho10 | (simp only [Int.reduceToNat] at ho10; rw [← Ny286.out] at ho10)); have n0_ := Aside0.mk (Kd.R_below (by (with_reducible repeat (first | apply Kd.R_alloc | apply Kd.R_drewN | apply Kd.R_drew)); exact HO285.out) hb); have n1_ := Aside0.mk (Kd.R_lower ho10 (below_size (bq_ HB))); have n2_ := Aside0.mk (blk_below (g := gb282) (o := .cells #[.int .i64 a0_0, .int .i64 a0_1, .bool a0_2, .int .i64 a0_3, .int .i64 a0_4, .int .i64 a0_5, .int .i64 a0_6, .int .i64 a0_7, .int .i64 a0_8, .string a0_9] 32 (0, 0)) pq_ hb); have n3_ := Aside0.mk (below_step (bq_ HB) hb); clear HO285; clear BK282; clear HB; have HO285 := n0_; have HO288 := n1_; have BK282 := n2_; have HB := n3_; clear n0_ n1_ n2_ n3_; clear hb ho10; obtain ⟨Ao11, co11, eo11⟩ := Kd.R_slice HO288.out; subst eo11))
   go_loopg [4, 30] kj1 (fun kq v4 v30 w' => ∃ (x4_2 : List (S67)) (x30_2 : Int), v30 = .int .i64 x30_2 ∧ Aside0 (spec_l3Items.l0 kq x4_2 y286 (y286.length : Int) x30_2 a0_0 a0_1 a0_2 a0_3 a0_4 a0_5 a0_6 a0_7 a0_8 a0_9 = some r) ∧ Aside0 (kq ≤ kj1) ∧ Aside0 (Kd.R k67 67 w' w.heap.size (fun _ => True) v4 x4_2) ∧ Aside0 (Kd.R (Kd.int .i64) 3 w' w.heap.size (fun _ => True) (.slice Ao11 y286.length co11) y286) ∧ Aside0 (w'.heap[gb282]? = some (.cells #[.int .i64 a0_0, .int .i64 a0_1, .bool a0_2, .int .i64 a0_3, .int .i64 a0_4, .int .i64 a0_5, .int .i64 a0_6, .int .i64 a0_7, .int .i64 a0_8, .string a0_9] 32 (0, 0))) ∧ Aside0 (Below w.heap.size w w'))
   case atStart => exact ⟨(y283), (0), fs_, H', ⟨Nat.le_refl _⟩, ⟨by (with_reducible repeat (first | apply Kd.R_alloc | apply Kd.R_drewN | apply Kd.R_drew)); exact HO285.out⟩, ⟨by (with_reducible repeat (first | apply Kd.R_alloc | apply Kd.R_drewN | apply Kd.R_drew)); exact HO288.out⟩, ⟨pq_⟩, ⟨bq_ HB⟩⟩
   case round =>
    clear H'; try clear p2
    try clear c4
    try clear c5
    try clear c6
    try clear hcz4_0
    try clear hcz4_1
    try clear hcz4_2
    try clear hcz4_3
    try clear hcz4_4
    try clear hcz4_5
    try clear hcz4_6
    try clear hcz4_7
    try clear hcz4_8
    try clear hcz4_9
    try clear hcz8_0
    try clear hcz8_1
    try clear hcz8_2
    try clear hcz8_3
    try clear hcz8_4
    try clear hcz8_5
    try clear hcz8_6
    try clear hcz8_7
    try clear hcz8_8
    try clear hcz8_9
    try clear hfz4_0
    try clear hfz4_1
    try clear hfz4_2
    try clear hfz4_3
    try clear hfz4_4
    try clear hfz4_5
    try clear hfz4_6
    try clear hfz4_7
    try clear hfz4_8
    try clear hfz4_9
    try clear hfz8_0
    try clear hfz8_1
    try clear hfz8_2
    try clear hfz8_3
    try clear hfz8_4
    try clear hfz8_5
    try clear hfz8_6
    try clear hfz8_7
    try clear hfz8_8
    try clear hfz8_9
    try clear p2
    obtain ⟨x4_2, x30_2, rfl, HA, HK2, HO_4, HO_28, BK282, HB⟩ := hrel; cases gk with
    | zero => exact absurd HA.out (by simp [spec_l3Items.l0])
    | succ k2 =>
     have H := HA.out; clear HA; simp only [spec_l3Items.l0] at H; by_cases c12 : x30_2 < (y286.length : Int)
     ·rw [if_pos c12] at H; have c12b0 : decide (x30_2 < (y286.length : Int)) = true := decide_eq_true c12; clear c12; by_cases c13 : 0 ≤ x30_2
      ·rw [if_pos c13] at H; have c13b0 : decide (0 ≤ x30_2) = true := decide_eq_true c13; clear c13; by_cases c14 : x30_2 < (y286.length : Int)
       ·rw [if_pos c14] at H; have c14b0 : decide (x30_2 < (y286.length : Int)) = true := decide_eq_true c14; clear c14; by_cases c15 : x4_2.length < 3518437208883
        ·rw [if_pos c15] at H; have LMc15 := Aside0.mk c15; clear c15; obtain ⟨y290, hy290⟩ : ∃ y_ : List (S67), y_ = (x4_2 ++ [(⟨1, rd y286 x30_2, (⟨#[]⟩ : ByteArray), 0⟩ : S67)]) := ⟨_, rfl⟩
         replace H : (spec_l3Items.l0 k2 y290 y286 (y286.length : Int) (wrap64 (x30_2 + 1)) a0_0 a0_1 a0_2 a0_3 a0_4 a0_5 a0_6 a0_7 a0_8 a0_9) = some r := by first | (rw [hy290]; with_reducible exact H) | (have H2_ := (Option.bind_some _ _).symm.trans H; rw [hy290]; with_reducible exact H2_) | (have H2_ := (Option.bind_some _ _).symm.trans H; with_reducible exact H2_) | with_reducible exact H | (rw [hy290]; exact H) | exact H
         have Ny290 := Aside0.mk hy290; clear hy290; have H' := Aside0.mk H; clear H; have p289 : 0 ≤ (x30_2 : Int) := od_; have q289 : x30_2 < (y286.length : Int) := od_; obtain ⟨ad289, e289, hx289_0⟩ := Kd.at_int (Kd.R_reads' HO_28.out).2.2 x30_2 p289 q289; cases e289; replace p289 := eq_true p289; replace q289 := eq_true q289; go_wp2_with (first | ((with_reducible refine gate_builtin (b := .append) (xs := #[.tmp 34, .tmp 37]) rfl ?_); at_builtin; refine Kd.R_append k67 (w0 := w) w.heap.size rfl (.tmp 34) (.tmp 37) 68 67 (.agg #[(.int .i64 0), (.int .i64 0), (.string ⟨#[]⟩), (.int .i64 0)]) 40 rfl Try.underlying68 info67 rfl (by decide) (by omega) u4 x4_2 (⟨1, rd y286 x30_2, (⟨#[]⟩ : ByteArray), 0⟩ : S67) [.int .i64 1, .int .i64 (rd y286 x30_2), .string (⟨#[]⟩ : ByteArray), .int .i64 0] (fun _ => True) (fun _ => False) rfl rfl ?aP (fun _ hk => hk.elim) ?aF ?aO ?aB ?aS ?aL ?_; (case aP => exact k67_mkM _ _ _ (⟨1, rd y286 x30_2, (⟨#[]⟩ : ByteArray), 0⟩ : S67)); (case aB => exact (bq_ HB)); (case aF => exact (fun _ _ => trivial)); (case aO => exact (by (with_reducible repeat (first | apply Kd.R_alloc | apply Kd.R_drewN | apply Kd.R_drew)); exact HO_4.out)); (case aS => exact (below_size (bq_ HB))); (case aL => have := LMc15.out; omega); intro v291 w16 ho hb hg hat; rw [← Ny290.out] at ho; have n0_ := Aside0.mk (Kd.R_over' (by (with_reducible repeat (first | apply Kd.R_alloc | apply Kd.R_drewN | apply Kd.R_drew)); exact HO_28.out) (Kd.R_typed (by (with_reducible repeat (first | apply Kd.R_alloc | apply Kd.R_drewN | apply Kd.R_drew)); exact HO_4.out)) (by decide) hg); have n1_ := Aside0.mk (blk_grown (g := gb282) (o := .cells #[.int .i64 a0_0, .int .i64 a0_1, .bool a0_2, .int .i64 a0_3, .int .i64 a0_4, .int .i64 a0_5, .int .i64 a0_6, .int .i64 a0_7, .int .i64 a0_8, .string a0_9] 32 (0, 0)) pq_ hg (Kd.R_ne HO_4.out BK282.out (by decide))); have n2_ := Aside0.mk (hb); have n3_ := Aside0.mk (ho); clear HO_28; clear BK282; clear HB; clear HO_4; have HO_28 := n0_; have BK282 := n1_; have HB := n2_; have HO292 := n3_; clear n0_ n1_ n2_ n3_; clear ho hb hg hat)); go_roundg k2
         case measure => have := HJ1.out; have := HK2.out; omega
         case rel => exact ⟨(y290), (wrap64 (x30_2 + 1)), fs_, H', ⟨by have := HJ1.out; have := HK2.out; omega⟩, ⟨by (with_reducible repeat (first | apply Kd.R_alloc | apply Kd.R_drewN | apply Kd.R_drew)); exact HO292.out⟩, ⟨by (with_reducible repeat (first | apply Kd.R_alloc | apply Kd.R_drewN | apply Kd.R_drew)); exact HO_28.out⟩, ⟨pq_⟩, ⟨bq_ HB⟩⟩
        ·rw [if_neg c15] at H; exact no_ H
       ·rw [if_neg c14] at H; exact no_ H
      ·rw [if_neg c13] at H; exact no_ H
     ·rw [if_neg c12] at H; have c12b0 : decide (x30_2 < (y286.length : Int)) = false := decide_eq_false c12; clear c12; by_cases c17 : x4_2.length < 3518437208883
      ·rw [if_pos c17] at H; have LMc17 := Aside0.mk c17; clear c17; obtain ⟨y293, hy293⟩ : ∃ y_ : List (S67), y_ = (x4_2 ++ [(⟨2, 0, a0_9, 0⟩ : S67)]) := ⟨_, rfl⟩
       replace H : (some y293) = some r := by first | (rw [hy293]; with_reducible exact H) | (have H2_ := (Option.bind_some _ _).symm.trans H; rw [hy293]; with_reducible exact H2_) | (have H2_ := (Option.bind_some _ _).symm.trans H; with_reducible exact H2_) | with_reducible exact H | (rw [hy293]; exact H) | exact H
       have Ny293 := Aside0.mk hy293; clear hy293; obtain rfl := Option.some.inj H; obtain ⟨hcz18_0, hcz18_1, hcz18_2, hcz18_3, hcz18_4, hcz18_5, hcz18_6, hcz18_7, hcz18_8, hcz18_9, hfz18_0, hfz18_1, hfz18_2, hfz18_3, hfz18_4, hfz18_5, hfz18_6, hfz18_7, hfz18_8, hfz18_9⟩ := cf10 BK282.out; go_wp2_with (first | ((with_reducible refine gate_builtin (b := .append) (xs := #[.tmp 40, .tmp 44]) rfl ?_); at_builtin; refine Kd.R_append k67 (w0 := w) w.heap.size rfl (.tmp 40) (.tmp 44) 68 67 (.agg #[(.int .i64 0), (.int .i64 0), (.string ⟨#[]⟩), (.int .i64 0)]) 40 rfl Try.underlying68 info67 rfl (by decide) (by omega) u4 x4_2 (⟨2, 0, a0_9, 0⟩ : S67) [.int .i64 2, .int .i64 0, .string a0_9, .int .i64 0] (fun _ => True) (fun _ => False) rfl rfl ?aP (fun _ hk => hk.elim) ?aF ?aO ?aB ?aS ?aL ?_; (case aP => exact k67_mkM _ _ _ (⟨2, 0, a0_9, 0⟩ : S67)); (case aB => exact (bq_ HB)); (case aF => exact (fun _ _ => trivial)); (case aO => exact (by (with_reducible repeat (first | apply Kd.R_alloc | apply Kd.R_drewN | apply Kd.R_drew)); exact HO_4.out)); (case aS => exact (below_size (bq_ HB))); (case aL => have := LMc17.out; omega); intro v294 w19 ho hb hg hat; rw [← Ny293.out] at ho; have n0_ := Aside0.mk (Kd.R_over' (by (with_reducible repeat (first | apply Kd.R_alloc | apply Kd.R_drewN | apply Kd.R_drew)); exact HO_28.out) (Kd.R_typed (by (with_reducible repeat (first | apply Kd.R_alloc | apply Kd.R_drewN | apply Kd.R_drew)); exact HO_4.out)) (by decide) hg); have n1_ := Aside0.mk (blk_grown (g := gb282) (o := .cells #[.int .i64 a0_0, .int .i64 a0_1, .bool a0_2, .int .i64 a0_3, .int .i64 a0_4, .int .i64 a0_5, .int .i64 a0_6, .int .i64 a0_7, .int .i64 a0_8, .string a0_9] 32 (0, 0)) pq_ hg (Kd.R_ne HO_4.out BK282.out (by decide))); have n2_ := Aside0.mk (hb); have n3_ := Aside0.mk (ho); clear HO_28; clear BK282; clear HB; clear HO_4; have HO_28 := n0_; have BK282 := n1_; have HB := n2_; have HO295 := n3_; clear n0_ n1_ n2_ n3_; clear ho hb hg hat)); go_ret; exact ⟨_, er_, by (with_reducible repeat (first | apply Kd.R_alloc | apply Kd.R_drewN | apply Kd.R_drew)); exact HO295.out, bq_ HB⟩
      ·rw [if_neg c17] at H; exact no_ H
def spec_l3Bytes.f (k : Nat) (a0_0 : Int) (a0_1 : Int) (a0_2 : Bool) (a0_3 : Int) (a0_4 : Int) (a0_5 : Int) (a0_6 : Int) (a0_7 : Int) (a0_8 : Int) (a0_9 : ByteArray) : Option (ByteArray) := (spec_l3Items.f k a0_0 a0_1 a0_2 a0_3 a0_4 a0_5 a0_6 a0_7 a0_8 a0_9).bind fun t297 => ((spec_l2Bytes.f k t297).bind fun t300 => ((spec_l1With.f k t300).bind fun t301 => (some t301)))
theorem spec_l3Bytes.mono : ∀ a0 a1 a2 a3 a4 a5 a6 a7 a8 a9 k, LeO (spec_l3Bytes.f k a0 a1 a2 a3 a4 a5 a6 a7 a8 a9) (spec_l3Bytes.f (k + 1) a0 a1 a2 a3 a4 a5 a6 a7 a8 a9) := by
 intro a0 a1 a2 a3 a4 a5 a6 a7 a8 a9 k; unfold spec_l3Bytes.f
 repeat' first
   | (with_reducible exact spec_l1With.mono _ _)
   | (with_reducible exact spec_l2Bytes.mono _ _)
   | (with_reducible exact spec_l3Items.mono _ _ _ _ _ _ _ _ _ _ _)
   | (with_reducible exact LeO.refl _)
   | (with_reducible exact LeO.none _)
   | (with_reducible refine LeO.ite ?_ ?_)
   | (with_reducible refine LeO.bind ?_ (fun _ => ?_))
   | exact spec_l1With.mono _ _
   | exact spec_l2Bytes.mono _ _
   | exact spec_l3Items.mono _ _ _ _ _ _ _ _ _ _ _
   | exact LeO.none _
   | refine LeO.ite ?_ ?_
   | refine LeO.bind ?_ (fun _ => ?_)
set_option maxHeartbeats 8000000 in
set_option maxRecDepth 100000 in
theorem spec_l3Bytes.calls (k : Nat) (a0_0 : Int) (a0_1 : Int) (a0_2 : Bool) (a0_3 : Int) (a0_4 : Int) (a0_5 : Int) (a0_6 : Int) (a0_7 : Int) (a0_8 : Int) (a0_9 : ByteArray) (r : ByteArray) (w : World) (h : spec_l3Bytes.f k a0_0 a0_1 a0_2 a0_3 a0_4 a0_5 a0_6 a0_7 a0_8 a0_9 = some r) :
  Calls Try.prog 45 #[.agg #[.int .i64 a0_0, .int .i64 a0_1, .bool a0_2, .int .i64 a0_3, .int .i64 a0_4, .int .i64 a0_5, .int .i64 a0_6, .int .i64 a0_7, .int .i64 a0_8, .string a0_9]] w fun e w' => e = .returned (.string r) ∧ Below w.heap.size w w' := by
 have hu32 := Try.underlying32; have HB := Aside0.mk (Below.refl w.heap.size w); have H : ((spec_l3Items.f k a0_0 a0_1 a0_2 a0_3 a0_4 a0_5 a0_6 a0_7 a0_8 a0_9).bind fun t297 => ((spec_l2Bytes.f k t297).bind fun t300 => ((spec_l1With.f k t300).bind fun t301 => (some t301)))) = some r := h; clear h; replace H := Option.bind_eq_some_iff.mp H; obtain ⟨t297, A20, H⟩ := H; replace H : ((spec_l2Bytes.f k t297).bind fun t300 => ((spec_l1With.f k t300).bind fun t301 => (some t301))) = some r := H; have A2 := Aside0.mk A20; clear A20; replace H := Option.bind_eq_some_iff.mp H; obtain ⟨t300, A30, H⟩ := H; replace H : ((spec_l1With.f k t300).bind fun t301 => (some t301)) = some r := H; have A3 := Aside0.mk A30; clear A30; replace H := Option.bind_eq_some_iff.mp H; obtain ⟨t301, A40, H⟩ := H; replace H : (some t301) = some r := H; have A4 := Aside0.mk A40; clear A40; obtain rfl := Option.some.inj H
 go_enter Try.func45, Try.ntmps45
 go_wp2_with (first | ((with_reducible refine gate_dst (N := 1) rfl ?_); refine be_ 1 32 #[.int .i64 a0_0, .int .i64 a0_1, .bool a0_2, .int .i64 a0_3, .int .i64 a0_4, .int .i64 a0_5, .int .i64 a0_6, .int .i64 a0_7, .int .i64 a0_8, .string a0_9] ?_; intro gb296 hg w5 hbox hb; have n0_ := Aside0.mk (bs_ hb); have n1_ := Aside0.mk (hbox); have n2_ := Aside0.mk ((by rw [hg]; exact bz_ : w.heap.size ≤ gb296)); have n3_ := Aside0.mk ((by rw [hg]; exact bz_ : w.heap.size ≤ gb296)); clear HB; have HB := n0_; have BK296 := n1_; have GW296 := n2_; have GE296 := n3_; clear n0_ n1_ n2_ n3_; clear hb hbox hg; obtain ⟨hcz6_0, hcz6_1, hcz6_2, hcz6_3, hcz6_4, hcz6_5, hcz6_6, hcz6_7, hcz6_8, hcz6_9, hfz6_0, hfz6_1, hfz6_2, hfz6_3, hfz6_4, hfz6_5, hfz6_6, hfz6_7, hfz6_8, hfz6_9⟩ := cf10 BK296.out) | ((with_reducible refine gate_callee (f := 66) rfl ?_); refine goesL_ (some 4) rfl rfl Try.func66 (by kernel_rfl) rfl #[.agg #[.int .i64 a0_0, .int .i64 a0_1, .bool a0_2, .int .i64 a0_3, .int .i64 a0_4, .int .i64 a0_5, .int .i64 a0_6, .int .i64 a0_7, .int .i64 a0_8, .string a0_9]] rfl ma_ ?_; (with_reducible refine (spec_l3Items.calls k a0_0 a0_1 a0_2 a0_3 a0_4 a0_5 a0_6 a0_7 a0_8 a0_9 t297 _ A2.out).mono ?_); rintro e w7 ⟨v298, rfl, ho0, hb⟩; refine ⟨_, rfl, ?_⟩; have n0_ := Aside0.mk (Kd.R_lower ho0 (below_size (bq_ HB))); have n1_ := Aside0.mk (blk_below (g := gb296) (o := .cells #[.int .i64 a0_0, .int .i64 a0_1, .bool a0_2, .int .i64 a0_3, .int .i64 a0_4, .int .i64 a0_5, .int .i64 a0_6, .int .i64 a0_7, .int .i64 a0_8, .string a0_9] 32 (0, 0)) pq_ hb); have n2_ := Aside0.mk (below_step (bq_ HB) hb); clear BK296; clear HB; have HO299 := n0_; have BK296 := n1_; have HB := n2_; clear n0_ n1_ n2_; (try clear hb); (try clear hb2); (try clear hk); (try clear hi); (try clear ho0); obtain ⟨Ao8, co8, eo8⟩ := Kd.R_slice HO299.out; subst eo8) | ((with_reducible refine gate_callee (f := 65) rfl ?_); refine goesL_ (some 5) rfl rfl Try.func65 (by kernel_rfl) rfl #[.slice Ao8 t297.length co8] rfl ma_ ?_; (with_reducible refine (spec_l2Bytes.calls k _ _ t297 t300 _ ?side1 ?side2 A3.out).mono ?_); (case side1 => repeat (first | exact (Kd.R_reads' HO299.out).2.2 | with_reducible first | refine Kd.C_alloc ?_ _ | refine Kd.C_drewN ?_ _ | refine Kd.C_drew ?_)); (case side2 => exact (Kd.R_reads' HO299.out).2.1); rintro e w9 ⟨rfl, hb⟩; refine ⟨_, rfl, ?_⟩; have n0_ := Aside0.mk (Kd.R_below (by (with_reducible repeat (first | apply Kd.R_alloc | apply Kd.R_drewN | apply Kd.R_drew)); exact HO299.out) hb); have n1_ := Aside0.mk (blk_below (g := gb296) (o := .cells #[.int .i64 a0_0, .int .i64 a0_1, .bool a0_2, .int .i64 a0_3, .int .i64 a0_4, .int .i64 a0_5, .int .i64 a0_6, .int .i64 a0_7, .int .i64 a0_8, .string a0_9] 32 (0, 0)) pq_ hb); have n2_ := Aside0.mk (below_step (bq_ HB) hb); clear HO299; clear BK296; clear HB; have HO299 := n0_; have BK296 := n1_; have HB := n2_; clear n0_ n1_ n2_; (try clear hb); (try clear hb2); (try clear hk); (try clear hi)) | ((with_reducible refine gate_callee (f := 34) rfl ?_); refine goesL_ (some 6) rfl rfl Try.func34 (by kernel_rfl) rfl #[.string t300] rfl ma_ ?_; (with_reducible refine (spec_l1With.calls k t300 t301 _ A4.out).mono ?_); rintro e w10 ⟨rfl, hb⟩; refine ⟨_, rfl, ?_⟩; have n0_ := Aside0.mk (Kd.R_below (by (with_reducible repeat (first | apply Kd.R_alloc | apply Kd.R_drewN | apply Kd.R_drew)); exact HO299.out) hb); have n1_ := Aside0.mk (blk_below (g := gb296) (o := .cells #[.int .i64 a0_0, .int .i64 a0_1, .bool a0_2, .int .i64 a0_3, .int .i64 a0_4, .int .i64 a0_5, .int .i64 a0_6, .int .i64 a0_7, .int .i64 a0_8, .string a0_9] 32 (0, 0)) pq_ hb); have n2_ := Aside0.mk (below_step (bq_ HB) hb); clear HO299; clear BK296; clear HB; have HO299 := n0_; have BK296 := n1_; have HB := n2_; clear n0_ n1_ n2_; (try clear hb); (try clear hb2); (try clear hk); (try clear hi))); go_ret; exact ⟨er_, bq_ HB⟩
def spec_BundleBytes.f (k : Nat) (a0_0 : Int) (a0_1 : Int) (a0_2 : Bool) (a0_3 : Int) (a0_4 : Int) (a0_5 : Int) (a0_6 : Int) (a0_7 : Int) (a0_8 : Int) (a0_9 : ByteArray) : Option (ByteArray × Bool) := (spec_GoodBundle.f a0_0 a0_1 a0_2 a0_3 a0_4 a0_5 a0_6 a0_7 a0_8 a0_9).bind fun t303 => (if t303 = true then ((spec_l3Bytes.f k a0_0 a0_1 a0_2 a0_3 a0_4 a0_5 a0_6 a0_7 a0_8 a0_9).bind fun t304 => (some (t304, true))) else (some ((⟨#[]⟩ : ByteArray), false)))
theorem spec_BundleBytes.mono : ∀ a0 a1 a2 a3 a4 a5 a6 a7 a8 a9 k, LeO (spec_BundleBytes.f k a0 a1 a2 a3 a4 a5 a6 a7 a8 a9) (spec_BundleBytes.f (k + 1) a0 a1 a2 a3 a4 a5 a6 a7 a8 a9) := by
 intro a0 a1 a2 a3 a4 a5 a6 a7 a8 a9 k; unfold spec_BundleBytes.f
 repeat' first
   | (with_reducible exact spec_l3Bytes.mono _ _ _ _ _ _ _ _ _ _ _)
   | (with_reducible exact LeO.refl _)
   | (with_reducible exact LeO.none _)
   | (with_reducible refine LeO.ite ?_ ?_)
   | (with_reducible refine LeO.bind ?_ (fun _ => ?_))
   | exact spec_l3Bytes.mono _ _ _ _ _ _ _ _ _ _ _
   | exact LeO.none _
   | refine LeO.ite ?_ ?_
   | refine LeO.bind ?_ (fun _ => ?_)
set_option maxHeartbeats 8000000 in
set_option maxRecDepth 100000 in
theorem spec_BundleBytes.calls (k : Nat) (a0_0 : Int) (a0_1 : Int) (a0_2 : Bool) (a0_3 : Int) (a0_4 : Int) (a0_5 : Int) (a0_6 : Int) (a0_7 : Int) (a0_8 : Int) (a0_9 : ByteArray) (r1 : ByteArray) (r2 : Bool) (w : World) (h : spec_BundleBytes.f k a0_0 a0_1 a0_2 a0_3 a0_4 a0_5 a0_6 a0_7 a0_8 a0_9 = some (r1, r2)) :
  Calls Try.prog 18 #[.agg #[.int .i64 a0_0, .int .i64 a0_1, .bool a0_2, .int .i64 a0_3, .int .i64 a0_4, .int .i64 a0_5, .int .i64 a0_6, .int .i64 a0_7, .int .i64 a0_8, .string a0_9]] w fun e w' => e = .returned (.tuple #[.string r1, .bool r2]) ∧ Below w.heap.size w w' := by
 have hu32 := Try.underlying32; have HB := Aside0.mk (Below.refl w.heap.size w); have H : ((spec_GoodBundle.f a0_0 a0_1 a0_2 a0_3 a0_4 a0_5 a0_6 a0_7 a0_8 a0_9).bind fun t303 => (if t303 = true then ((spec_l3Bytes.f k a0_0 a0_1 a0_2 a0_3 a0_4 a0_5 a0_6 a0_7 a0_8 a0_9).bind fun t304 => (some (t304, true))) else (some ((⟨#[]⟩ : ByteArray), false)))) = some (r1, r2) := h; clear h; replace H := Option.bind_eq_some_iff.mp H; obtain ⟨t303, A20, H⟩ := H; replace H : (if t303 = true then ((spec_l3Bytes.f k a0_0 a0_1 a0_2 a0_3 a0_4 a0_5 a0_6 a0_7 a0_8 a0_9).bind fun t304 => (some (t304, true))) else (some ((⟨#[]⟩ : ByteArray), false))) = some (r1, r2) := H; have A2 := Aside0.mk A20; clear A20; by_cases c3 : t303 = true
 ·subst c3; have H1 : ((spec_l3Bytes.f k a0_0 a0_1 a0_2 a0_3 a0_4 a0_5 a0_6 a0_7 a0_8 a0_9).bind fun t304 => (some (t304, true))) = some (r1, r2) := by rw [if_pos rfl] at H; exact H
  clear H; have H := H1; clear H1; replace H := Option.bind_eq_some_iff.mp H; obtain ⟨t304, A40, H⟩ := H; replace H : (some (t304, true)) = some (r1, r2) := H; have A4 := Aside0.mk A40; clear A40; simp only [Option.some.injEq, Prod.mk.injEq] at H; obtain ⟨rfl, rfl⟩ := H
  go_enter Try.func18, Try.ntmps18
  go_wp2_with (first | ((with_reducible refine gate_dst (N := 1) rfl ?_); refine be_ 1 32 #[.int .i64 a0_0, .int .i64 a0_1, .bool a0_2, .int .i64 a0_3, .int .i64 a0_4, .int .i64 a0_5, .int .i64 a0_6, .int .i64 a0_7, .int .i64 a0_8, .string a0_9] ?_; intro gb302 hg w5 hbox hb; have n0_ := Aside0.mk (bs_ hb); have n1_ := Aside0.mk (hbox); have n2_ := Aside0.mk ((by rw [hg]; exact bz_ : w.heap.size ≤ gb302)); have n3_ := Aside0.mk ((by rw [hg]; exact bz_ : w.heap.size ≤ gb302)); clear HB; have HB := n0_; have BK302 := n1_; have GW302 := n2_; have GE302 := n3_; clear n0_ n1_ n2_ n3_; clear hb hbox hg; obtain ⟨hcz6_0, hcz6_1, hcz6_2, hcz6_3, hcz6_4, hcz6_5, hcz6_6, hcz6_7, hcz6_8, hcz6_9, hfz6_0, hfz6_1, hfz6_2, hfz6_3, hfz6_4, hfz6_5, hfz6_6, hfz6_7, hfz6_8, hfz6_9⟩ := cf10 BK302.out) | ((with_reducible refine gate_callee (f := 44) rfl ?_); refine goesL_ (some 5) rfl rfl Try.func44 (by kernel_rfl) rfl #[.agg #[.int .i64 a0_0, .int .i64 a0_1, .bool a0_2, .int .i64 a0_3, .int .i64 a0_4, .int .i64 a0_5, .int .i64 a0_6, .int .i64 a0_7, .int .i64 a0_8, .string a0_9]] rfl ma_ ?_; (with_reducible refine (spec_GoodBundle.calls a0_0 a0_1 a0_2 a0_3 a0_4 a0_5 a0_6 a0_7 a0_8 a0_9 true _ A2.out).mono ?_); rintro e w7 ⟨rfl, hb⟩; refine ⟨_, rfl, ?_⟩; have n0_ := Aside0.mk (blk_below (g := gb302) (o := .cells #[.int .i64 a0_0, .int .i64 a0_1, .bool a0_2, .int .i64 a0_3, .int .i64 a0_4, .int .i64 a0_5, .int .i64 a0_6, .int .i64 a0_7, .int .i64 a0_8, .string a0_9] 32 (0, 0)) pq_ hb); have n1_ := Aside0.mk (below_step (bq_ HB) hb); clear BK302; clear HB; have BK302 := n0_; have HB := n1_; clear n0_ n1_; (try clear hb); (try clear hb2); (try clear hk); (try clear hi); obtain ⟨hcz8_0, hcz8_1, hcz8_2, hcz8_3, hcz8_4, hcz8_5, hcz8_6, hcz8_7, hcz8_8, hcz8_9, hfz8_0, hfz8_1, hfz8_2, hfz8_3, hfz8_4, hfz8_5, hfz8_6, hfz8_7, hfz8_8, hfz8_9⟩ := cf10 BK302.out) | ((with_reducible refine gate_callee (f := 45) rfl ?_); refine goesL_ (some 8) rfl rfl Try.func45 (by kernel_rfl) rfl #[.agg #[.int .i64 a0_0, .int .i64 a0_1, .bool a0_2, .int .i64 a0_3, .int .i64 a0_4, .int .i64 a0_5, .int .i64 a0_6, .int .i64 a0_7, .int .i64 a0_8, .string a0_9]] rfl ma_ ?_; (with_reducible refine (spec_l3Bytes.calls k a0_0 a0_1 a0_2 a0_3 a0_4 a0_5 a0_6 a0_7 a0_8 a0_9 t304 _ A4.out).mono ?_); rintro e w9 ⟨rfl, hb⟩; refine ⟨_, rfl, ?_⟩; have n0_ := Aside0.mk (blk_below (g := gb302) (o := .cells #[.int .i64 a0_0, .int .i64 a0_1, .bool a0_2, .int .i64 a0_3, .int .i64 a0_4, .int .i64 a0_5, .int .i64 a0_6, .int .i64 a0_7, .int .i64 a0_8, .string a0_9] 32 (0, 0)) pq_ hb); have n1_ := Aside0.mk (below_step (bq_ HB) hb); clear BK302; clear HB; have BK302 := n0_; have HB := n1_; clear n0_ n1_; (try clear hb); (try clear hb2); (try clear hk); (try clear hi))); go_ret2; exact ⟨er_, bq_ HB⟩
 ·replace c3 := Bool.eq_false_iff.mpr c3; subst c3; have H1 : (some ((⟨#[]⟩ : ByteArray), false)) = some (r1, r2) := by rw [if_neg (show ¬ (false = true) by decide)] at H; exact H
  clear H; have H := H1; clear H1; simp only [Option.some.injEq, Prod.mk.injEq] at H; obtain ⟨rfl, rfl⟩ := H
  go_enter Try.func18, Try.ntmps18
  go_wp2_with (first | ((with_reducible refine gate_dst (N := 1) rfl ?_); refine be_ 1 32 #[.int .i64 a0_0, .int .i64 a0_1, .bool a0_2, .int .i64 a0_3, .int .i64 a0_4, .int .i64 a0_5, .int .i64 a0_6, .int .i64 a0_7, .int .i64 a0_8, .string a0_9] ?_; intro gb302 hg w10 hbox hb; have n0_ := Aside0.mk (bs_ hb); have n1_ := Aside0.mk (hbox); have n2_ := Aside0.mk ((by rw [hg]; exact bz_ : w.heap.size ≤ gb302)); have n3_ := Aside0.mk ((by rw [hg]; exact bz_ : w.heap.size ≤ gb302)); clear HB; have HB := n0_; have BK302 := n1_; have GW302 := n2_; have GE302 := n3_; clear n0_ n1_ n2_ n3_; clear hb hbox hg; obtain ⟨hcz11_0, hcz11_1, hcz11_2, hcz11_3, hcz11_4, hcz11_5, hcz11_6, hcz11_7, hcz11_8, hcz11_9, hfz11_0, hfz11_1, hfz11_2, hfz11_3, hfz11_4, hfz11_5, hfz11_6, hfz11_7, hfz11_8, hfz11_9⟩ := cf10 BK302.out) | ((with_reducible refine gate_callee (f := 44) rfl ?_); refine goesL_ (some 5) rfl rfl Try.func44 (by kernel_rfl) rfl #[.agg #[.int .i64 a0_0, .int .i64 a0_1, .bool a0_2, .int .i64 a0_3, .int .i64 a0_4, .int .i64 a0_5, .int .i64 a0_6, .int .i64 a0_7, .int .i64 a0_8, .string a0_9]] rfl ma_ ?_; (with_reducible refine (spec_GoodBundle.calls a0_0 a0_1 a0_2 a0_3 a0_4 a0_5 a0_6 a0_7 a0_8 a0_9 false _ A2.out).mono ?_); rintro e w12 ⟨rfl, hb⟩; refine ⟨_, rfl, ?_⟩; have n0_ := Aside0.mk (blk_below (g := gb302) (o := .cells #[.int .i64 a0_0, .int .i64 a0_1, .bool a0_2, .int .i64 a0_3, .int .i64 a0_4, .int .i64 a0_5, .int .i64 a0_6, .int .i64 a0_7, .int .i64 a0_8, .string a0_9] 32 (0, 0)) pq_ hb); have n1_ := Aside0.mk (below_step (bq_ HB) hb); clear BK302; clear HB; have BK302 := n0_; have HB := n1_; clear n0_ n1_; (try clear hb); (try clear hb2); (try clear hk); (try clear hi))); go_ret2; exact ⟨er_, bq_ HB⟩
end Go.Proofs.Ytaffjcaohbkmoaa.QFnBundles
