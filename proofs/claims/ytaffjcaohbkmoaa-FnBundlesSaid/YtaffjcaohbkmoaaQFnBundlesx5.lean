import Derived.Test.YtaffjcaohbkmoaaQFnBundlesx0
import Derived.Test.YtaffjcaohbkmoaaQFnBundlesx3
import Derived.Test.YtaffjcaohbkmoaaQFnBundlesx4
import Derived.Test.YtaffjcaohbkmoaaSq
namespace Go.Proofs.Ytaffjcaohbkmoaa.QFnBundles
open Go.RowKit Go.Proofs.YtaffjcaohbkmoaaW.PrintWords Go.Proofs.YtaffjcaohbkmoaaW.PrintLast Go.Proofs.YtaffjcaohbkmoaaW.PrintMore
attribute [local go_sem] max2_int min2_int max_two min_two max_three min_three max_four min_four   -- for this text's walks alone
set_option linter.unusedVariables false
set_option linter.unusedSimpArgs false
def impl_itemsBytes.l0 : Nat → ByteArray → List (S67) → Int → Int → Option (ByteArray)
 | 0, _, _, _, _ => none
 | k + 1, x3, x6, x7, x8 => if x8 < x7 then (if 0 ≤ x8 then (if x8 < (x6.length : Int) then (if ((rd_T67 x6 x8).f0) = 1 then ((impl_head.f 0 ((rd_T67 x6 x8).f1)).bind fun t229 => (if x3.size + t229.size ≤ 9223372036854775807 then (impl_itemsBytes.l0 k (x3 ++ t229) x6 x7 (wrap64 (x8 + 1))) else (none))) else (if ((rd_T67 x6 x8).f0) = 2 then ((impl_head.f 2 (((rd_T67 x6 x8).f2).size : Int)).bind fun t230 => (if t230.size + ((rd_T67 x6 x8).f2).size ≤ 9223372036854775807 then (if x3.size + (t230.size + ((rd_T67 x6 x8).f2).size) ≤ 9223372036854775807 then (impl_itemsBytes.l0 k (x3 ++ (t230 ++ ((rd_T67 x6 x8).f2))) x6 x7 (wrap64 (x8 + 1))) else (none)) else (none))) else (if ((rd_T67 x6 x8).f0) = 3 then ((impl_head.f 3 (((rd_T67 x6 x8).f2).size : Int)).bind fun t231 => (if t231.size + ((rd_T67 x6 x8).f2).size ≤ 9223372036854775807 then (if x3.size + (t231.size + ((rd_T67 x6 x8).f2).size) ≤ 9223372036854775807 then (impl_itemsBytes.l0 k (x3 ++ (t231 ++ ((rd_T67 x6 x8).f2))) x6 x7 (wrap64 (x8 + 1))) else (none)) else (none))) else (if ((rd_T67 x6 x8).f0) = 4 then ((impl_head.f 4 ((rd_T67 x6 x8).f3)).bind fun t232 => (if x3.size + t232.size ≤ 9223372036854775807 then (impl_itemsBytes.l0 k (x3 ++ t232) x6 x7 (wrap64 (x8 + 1))) else (none))) else (impl_itemsBytes.l0 k x3 x6 x7 (wrap64 (x8 + 1))))))) else (none)) else (none)) else (some x3)
def impl_itemsBytes.f (k : Nat) (l0 : List (S67)) : Option (ByteArray) := impl_itemsBytes.l0 k (⟨#[]⟩ : ByteArray) l0 (l0.length : Int) 0
theorem impl_itemsBytes.mono_l : ∀ k, (∀ y0 y1 y2 y3, LeO (impl_itemsBytes.l0 k y0 y1 y2 y3) (impl_itemsBytes.l0 (k + 1) y0 y1 y2 y3))
 | 0 => fun _ _ _ _ r h => by simp [impl_itemsBytes.l0] at h
 | k + 1 => by
  have ih0 := impl_itemsBytes.mono_l k
  ·intro y0 y1 y2 y3; unfold impl_itemsBytes.l0
   repeat' first
   | (with_reducible exact ih0 _ _ _ _)
   | (with_reducible exact LeO.refl _)
   | (with_reducible exact LeO.none _)
   | (with_reducible refine LeO.ite ?_ ?_)
   | (with_reducible refine LeO.bind ?_ (fun _ => ?_))
   | exact ih0 _ _ _ _
   | exact LeO.none _
   | refine LeO.ite ?_ ?_
   | refine LeO.bind ?_ (fun _ => ?_)
theorem impl_itemsBytes.mono : ∀ a0 k, LeO (impl_itemsBytes.f k a0) (impl_itemsBytes.f (k + 1) a0) := by
 intro a0 k; have ih0 := impl_itemsBytes.mono_l k; unfold impl_itemsBytes.f
 repeat' first
   | (with_reducible exact ih0 _ _ _ _)
   | (with_reducible exact LeO.refl _)
   | (with_reducible exact LeO.none _)
   | (with_reducible refine LeO.ite ?_ ?_)
   | (with_reducible refine LeO.bind ?_ (fun _ => ?_))
   | exact ih0 _ _ _ _
   | exact LeO.none _
   | refine LeO.ite ?_ ?_
   | refine LeO.bind ?_ (fun _ => ?_)
def impl_itemsBytes.T9 : Bool × List (List Nat × List Nat) := (true, [([], []), ([], []), ([1], [1]), ([2], [2]), ([3], [3]), ([], []), ([5], [5]), ([4, 6], [4, 6]), ([0, 7], [0, 7]), ([8, 4, 0, 1, 2, 3, 4, 5, 6, 7, 8], [0, 8])])
def impl_itemsBytes.B9 : List Nat := [0, 0, 2, 6, 14, 0, 32, 126, 255, 511]
theorem impl_itemsBytes.tab9 : rtab .any (opsOf Try.f43 9) = impl_itemsBytes.T9 := by kernel_rfl
theorem impl_itemsBytes.bits9 : waitsOk impl_itemsBytes.T9.2 impl_itemsBytes.B9 = true := by kernel_rfl
def impl_itemsBytes.T11 : Bool × List (List Nat × List Nat) := (true, [([], []), ([], []), ([1], [1]), ([2], [2]), ([3], [3]), ([], []), ([5], [5]), ([4, 6], [4, 6]), ([0, 7], [0, 7]), ([8, 4, 0, 1, 2, 3, 4, 5, 6, 7, 8], [0, 8])])
def impl_itemsBytes.B11 : List Nat := [0, 0, 2, 6, 14, 0, 32, 126, 255, 511]
theorem impl_itemsBytes.tab11 : rtab .any (opsOf Try.f43 11) = impl_itemsBytes.T11 := by kernel_rfl
theorem impl_itemsBytes.bits11 : waitsOk impl_itemsBytes.T11.2 impl_itemsBytes.B11 = true := by kernel_rfl
set_option maxHeartbeats 8000000 in
set_option maxRecDepth 100000 in
theorem impl_itemsBytes.calls (k : Nat) (A0 : Option Addr) (c0 : Nat) (l0 : List (S67)) (r : ByteArray) (w : World) (hr0 : Kd.C k67 w A0 l0.length l0) (hc0 : l0.length ≤ c0) (h : impl_itemsBytes.f k l0 = some r) :
  Calls Try.prog 43 #[.slice A0 l0.length c0] w fun e w' => e = .returned (.string r) ∧ Below w.heap.size w w' := by
 have hu67 := Try.underlying67; have HR0 := Aside0.mk hr0; have HC0 := Aside0.mk hc0; clear hr0 hc0; have HB := Aside0.mk (Below.refl w.heap.size w); have H : (impl_itemsBytes.l0 k (⟨#[]⟩ : ByteArray) l0 (l0.length : Int) 0) = some r := h; clear h; have H' := Aside0.mk H; clear H
 go_enter Try.func43, Try.ntmps43
 go_wp2
 go_loopg [3, 8] k (fun kq v3 v8 w' => ∃ (x3_1 : ByteArray) (x8_1 : Int), v3 = .string x3_1 ∧ v8 = .int .i64 x8_1 ∧ Aside0 (impl_itemsBytes.l0 kq x3_1 l0 (l0.length : Int) x8_1 = some r) ∧ Aside0 (kq ≤ k) ∧ Aside0 (Below w.heap.size w w'))
 case atStart => exact ⟨((⟨#[]⟩ : ByteArray)), (0), fs_, fs_, H', ⟨Nat.le_refl _⟩, ⟨bq_ HB⟩⟩
 case round =>
  clear H'; obtain ⟨x3_1, x8_1, rfl, rfl, HA, HK1, HB⟩ := hrel; cases gk with
  | zero => exact absurd HA.out (by simp [impl_itemsBytes.l0])
  | succ k1 =>
   have H := HA.out; clear HA; simp only [impl_itemsBytes.l0] at H; by_cases c2 : x8_1 < (l0.length : Int)
   ·rw [if_pos c2] at H; have c2b0 : decide (x8_1 < (l0.length : Int)) = true := decide_eq_true c2; clear c2; by_cases c3 : 0 ≤ x8_1
    ·rw [if_pos c3] at H; have c3b0 : decide (0 ≤ x8_1) = true := decide_eq_true c3; clear c3; by_cases c4 : x8_1 < (l0.length : Int)
     ·rw [if_pos c4] at H; have c4b0 : decide (x8_1 < (l0.length : Int)) = true := decide_eq_true c4; clear c4; by_cases c5 : ((rd_T67 l0 x8_1).f0) = 1
      ·rw [if_pos c5] at H; have c5b0 : (((rd_T67 l0 x8_1).f0) == 1) = true := beq_iff_eq.mpr c5; have c5b1 : (((rd_T67 l0 x8_1).f0) != 1) = false := bne_eq_false_iff_eq.mpr c5; clear c5; replace H := Option.bind_eq_some_iff.mp H; obtain ⟨t229, A60, H⟩ := H; replace H : (if x3_1.size + t229.size ≤ 9223372036854775807 then (impl_itemsBytes.l0 k1 (x3_1 ++ t229) l0 (l0.length : Int) (wrap64 (x8_1 + 1))) else (none)) = some r := H; have A6 := Aside0.mk A60; clear A60; by_cases c7 : x3_1.size + t229.size ≤ 9223372036854775807
       ·rw [if_pos c7] at H; have c7b0 := eq_true c7; have c7b1 : decide (x3_1.size + t229.size ≤ 9223372036854775807) = true := decide_eq_true c7; try have c7b2 : (9223372036854775807 < x3_1.size + t229.size) = False := eq_false (Nat.not_lt.2 c7)
        have H' := Aside0.mk H; clear H; have p227 : 0 ≤ (x8_1 : Int) := od_; have q227 : x8_1 < (l0.length : Int) := od_; obtain ⟨ad227, e227, hx227_0, hx227_1, hx227_2, hx227_3⟩ := at_T67 HR0.out x8_1 p227 q227; cases e227; replace hx227_0 := ce_ HB.out hx227_0; replace hx227_1 := ce_ HB.out hx227_1; replace hx227_2 := ce_ HB.out hx227_2; replace hx227_3 := ce_ HB.out hx227_3; replace p227 := eq_true p227; replace q227 := eq_true q227; go_wp2_with (first | ((with_reducible refine gate_dst (N := 5) rfl ?_); refine be_ 5 67 (#[.int .i64 0, .int .i64 0, .string (⟨#[]⟩ : ByteArray), .int .i64 0]) ?_; intro gb228 hg w8 hbox hb; have n0_ := Aside0.mk (bs_ hb); have n1_ := Aside0.mk (hbox); have n2_ := Aside0.mk ((by rw [hg]; exact bz_ : w.heap.size ≤ gb228)); have n3_ := Aside0.mk ((by rw [hg]; exact bz_ : w.heap.size ≤ gb228)); clear HB; have HB := n0_; have BK228 := n1_; have GW228 := n2_; have GE228 := n3_; clear n0_ n1_ n2_ n3_; clear hb hbox hg; obtain ⟨hcz9_0, hcz9_1, hcz9_2, hcz9_3, hfz9_0, hfz9_1, hfz9_2, hfz9_3⟩ := cf4 BK228.out) | ((with_reducible refine gate_callee (f := 64) rfl ?_); refine goesL_ (some 19) rfl rfl Try.func64 (by kernel_rfl) rfl #[.int .i64 0, .int .i64 ((rd_T67 l0 x8_1).f1)] rfl ma_ ?_; (with_reducible refine (impl_head.calls 0 ((rd_T67 l0 x8_1).f1) t229 _ A6.out).mono ?_); rintro e w10 ⟨rfl, hb⟩; refine ⟨_, rfl, ?_⟩; have n0_ := Aside0.mk (blk_below (g := gb228) (o := .cells #[.int .i64 ((rd_T67 l0 x8_1).f0), .int .i64 ((rd_T67 l0 x8_1).f1), .string ((rd_T67 l0 x8_1).f2), .int .i64 ((rd_T67 l0 x8_1).f3)] 67 (0, 0)) pb4_ hb); have n1_ := Aside0.mk (below_step (bq_ HB) hb); clear BK228; clear HB; have BK228 := n0_; have HB := n1_; clear n0_ n1_; (try clear hb); (try clear hb2); (try clear hk); (try clear hi))); go_roundg k1
        case measure => have := HK1.out; omega
        case rel => exact ⟨(x3_1 ++ t229), (wrap64 (x8_1 + 1)), fs_, fs_, H', ⟨by have := HK1.out; omega⟩, ⟨bq_ HB⟩⟩
       ·rw [if_neg c7] at H; exact no_ H
      ·rw [if_neg c5] at H; have c5b0 : (((rd_T67 l0 x8_1).f0) == 1) = false := beq_eq_false_iff_ne.mpr c5; have c5b1 : (((rd_T67 l0 x8_1).f0) != 1) = true := bne_iff_ne.mpr c5; by_cases c11 : ((rd_T67 l0 x8_1).f0) = 2
       ·rw [if_pos c11] at H; have c11b0 : (((rd_T67 l0 x8_1).f0) == 2) = true := beq_iff_eq.mpr c11; have c11b1 : (((rd_T67 l0 x8_1).f0) != 2) = false := bne_eq_false_iff_eq.mpr c11; clear c11; replace H := Option.bind_eq_some_iff.mp H; obtain ⟨t230, A120, H⟩ := H; replace H : (if t230.size + ((rd_T67 l0 x8_1).f2).size ≤ 9223372036854775807 then (if x3_1.size + (t230.size + ((rd_T67 l0 x8_1).f2).size) ≤ 9223372036854775807 then (impl_itemsBytes.l0 k1 (x3_1 ++ (t230 ++ ((rd_T67 l0 x8_1).f2))) l0 (l0.length : Int) (wrap64 (x8_1 + 1))) else (none)) else (none)) = some r := H; have A12 := Aside0.mk A120; clear A120; by_cases c13 : t230.size + ((rd_T67 l0 x8_1).f2).size ≤ 9223372036854775807
        ·rw [if_pos c13] at H; have c13b0 := eq_true c13; have c13b1 : decide (t230.size + ((rd_T67 l0 x8_1).f2).size ≤ 9223372036854775807) = true := decide_eq_true c13; try have c13b2 : (9223372036854775807 < t230.size + ((rd_T67 l0 x8_1).f2).size) = False := eq_false (Nat.not_lt.2 c13)
         by_cases c14 : x3_1.size + (t230.size + ((rd_T67 l0 x8_1).f2).size) ≤ 9223372036854775807
         ·rw [if_pos c14] at H; have c14b0 := eq_true c14; have c14b1 : decide (x3_1.size + (t230.size + ((rd_T67 l0 x8_1).f2).size) ≤ 9223372036854775807) = true := decide_eq_true c14; try have c14b2 : (9223372036854775807 < x3_1.size + (t230.size + ((rd_T67 l0 x8_1).f2).size)) = False := eq_false (Nat.not_lt.2 c14)
          have H' := Aside0.mk H; clear H; have p227 : 0 ≤ (x8_1 : Int) := od_; have q227 : x8_1 < (l0.length : Int) := od_; obtain ⟨ad227, e227, hx227_0, hx227_1, hx227_2, hx227_3⟩ := at_T67 HR0.out x8_1 p227 q227; cases e227; replace hx227_0 := ce_ HB.out hx227_0; replace hx227_1 := ce_ HB.out hx227_1; replace hx227_2 := ce_ HB.out hx227_2; replace hx227_3 := ce_ HB.out hx227_3; replace p227 := eq_true p227; replace q227 := eq_true q227; try go_wp2_with (first | ((with_reducible refine gate_dst (N := 5) rfl ?_); refine be_ 5 67 (#[.int .i64 0, .int .i64 0, .string (⟨#[]⟩ : ByteArray), .int .i64 0]) ?_; intro gb228 hg w15 hbox hb; have n0_ := Aside0.mk (bs_ hb); have n1_ := Aside0.mk (hbox); have n2_ := Aside0.mk ((by rw [hg]; exact bz_ : w.heap.size ≤ gb228)); have n3_ := Aside0.mk ((by rw [hg]; exact bz_ : w.heap.size ≤ gb228)); clear HB; have HB := n0_; have BK228 := n1_; have GW228 := n2_; have GE228 := n3_; clear n0_ n1_ n2_ n3_; clear hb hbox hg; obtain ⟨hcz16_0, hcz16_1, hcz16_2, hcz16_3, hfz16_0, hfz16_1, hfz16_2, hfz16_3⟩ := cf4 BK228.out))
          have n0_ : Aside0 (((((w15.setCell ⟨gb228, 0, none⟩ (.int .i64 ((rd_T67 l0 x8_1).f0))).setCell ⟨gb228, 1, none⟩ (.int .i64 ((rd_T67 l0 x8_1).f1))).setCell ⟨gb228, 2, none⟩ (.string ((rd_T67 l0 x8_1).f2))).setCell ⟨gb228, 3, none⟩ (.int .i64 ((rd_T67 l0 x8_1).f3))).heap[gb228]? = some (.cells #[.int .i64 ((rd_T67 l0 x8_1).f0), .int .i64 ((rd_T67 l0 x8_1).f1), .string ((rd_T67 l0 x8_1).f2), .int .i64 ((rd_T67 l0 x8_1).f3)] 67 (0, 0))) := ⟨pb4_⟩
          have n1_ : Aside0 (Below w.heap.size w ((((w15.setCell ⟨gb228, 0, none⟩ (.int .i64 ((rd_T67 l0 x8_1).f0))).setCell ⟨gb228, 1, none⟩ (.int .i64 ((rd_T67 l0 x8_1).f1))).setCell ⟨gb228, 2, none⟩ (.string ((rd_T67 l0 x8_1).f2))).setCell ⟨gb228, 3, none⟩ (.int .i64 ((rd_T67 l0 x8_1).f3)))) := ⟨bq_ HB⟩
          (try clear BK228); (try clear HB); generalize ((((w15.setCell ⟨gb228, 0, none⟩ (.int .i64 ((rd_T67 l0 x8_1).f0))).setCell ⟨gb228, 1, none⟩ (.int .i64 ((rd_T67 l0 x8_1).f1))).setCell ⟨gb228, 2, none⟩ (.string ((rd_T67 l0 x8_1).f2))).setCell ⟨gb228, 3, none⟩ (.int .i64 ((rd_T67 l0 x8_1).f3))) = w17 at n0_ n1_ ⊢; have BK228 := n0_; have HB := n1_; clear n0_ n1_; have n0_ := Aside0.mk (blk_drew BK228.out); have n1_ := Aside0.mk (below_drew1 HB.out); clear BK228; clear HB; have BK228 := n0_; have HB := n1_; clear n0_ n1_; refine start_ (n := 10) (S := fun w' => w'.cell? ⟨gb228, 0, none⟩ = some (.int .i64 ((rd_T67 l0 x8_1).f0)) ∧ w'.cell? ⟨gb228, 1, none⟩ = some (.int .i64 ((rd_T67 l0 x8_1).f1)) ∧ w'.cell? ⟨gb228, 2, none⟩ = some (.string ((rd_T67 l0 x8_1).f2)) ∧ w'.cell? ⟨gb228, 3, none⟩ = some (.int .i64 ((rd_T67 l0 x8_1).f3))) (ds := []) #[false, false, false, false, false, false, false, false, false, false] (by kernel_rfl) rfl rfl ⟨(blk_cell BK228.out 0).trans rfl, (blk_cell BK228.out 1).trans rfl, (blk_cell BK228.out 2).trans rfl, (blk_cell BK228.out 3).trans rfl⟩ (fun hHeld => ?_); refine with_tabW impl_itemsBytes.tab9 impl_itemsBytes.bits9 (fun HT_ HW_ => ?_); generalize w17.drew = w18 at BK228 HB hHeld ⊢; refine pP 0 23 (mB 10 1) HT_ ?_
          refine pP 1 24 (mB 10 3) HT_ ?_
          refine pP 5 28 (mB 10 35) HT_ ?_
          refine tK 2 25 (mB 10 39) HT_ HW_ hHeld ?_
          refine pP 3 26 (mB 10 47) HT_ ?_
          refine tK 6 29 (mB 10 111) HT_ HW_ hHeld ?_
          refine oN 4 (some 27) (mB 10 127) HT_ (fun K hK => ?_); refine goes_ Try.func64 (by kernel_rfl) rfl #[.int .i64 2, .int .i64 (((rd_T67 l0 x8_1).f2).size : Int)] (by rfl) rfl rfl ma_ ?_; with_reducible refine (impl_head.calls 2 (((rd_T67 l0 x8_1).f2).size : Int) t230 _ A12.out).mono ?_
          rintro e w19 ⟨rfl, hb⟩
          refine ⟨_, rfl, ?_⟩; have n0_ := Aside0.mk (blk_below (g := gb228) (o := .cells #[.int .i64 ((rd_T67 l0 x8_1).f0), .int .i64 ((rd_T67 l0 x8_1).f1), .string ((rd_T67 l0 x8_1).f2), .int .i64 ((rd_T67 l0 x8_1).f3)] 67 (0, 0)) pq_ hb); have n1_ := Aside0.mk (below_step (bq_ HB) hb); clear BK228; clear HB; have BK228 := n0_; have HB := n1_; clear n0_ n1_; (try clear hb); (try clear hb2); (try clear hk); (try clear hi); refine hK.out _ _ ⟨(blk_cell BK228.out 0).trans rfl, (blk_cell BK228.out 1).trans rfl, (blk_cell BK228.out 2).trans rfl, (blk_cell BK228.out 3).trans rfl⟩ (fun hHeld => ?_); clear hK K; refine nO 27 ?_
          refine pP 7 30 (mB 10 255) HT_ ?_
          refine pP 8 31 (mB 10 511) HT_ ?_
          refine pP 9 3 (mB 10 1023) HT_ ?_
          refine done_ (done_of HT_.out (by kernel_rfl)) ?_; try go_wp2
          go_roundg k1
          case measure => have := HK1.out; omega
          case rel => exact ⟨(x3_1 ++ (t230 ++ ((rd_T67 l0 x8_1).f2))), (wrap64 (x8_1 + 1)), fs_, fs_, H', ⟨by have := HK1.out; omega⟩, ⟨bq_ HB⟩⟩
         ·rw [if_neg c14] at H; exact no_ H
        ·rw [if_neg c13] at H; exact no_ H
       ·rw [if_neg c11] at H; have c11b0 : (((rd_T67 l0 x8_1).f0) == 2) = false := beq_eq_false_iff_ne.mpr c11; have c11b1 : (((rd_T67 l0 x8_1).f0) != 2) = true := bne_iff_ne.mpr c11; by_cases c20 : ((rd_T67 l0 x8_1).f0) = 3
        ·rw [if_pos c20] at H; have c20b0 : (((rd_T67 l0 x8_1).f0) == 3) = true := beq_iff_eq.mpr c20; have c20b1 : (((rd_T67 l0 x8_1).f0) != 3) = false := bne_eq_false_iff_eq.mpr c20; clear c20; replace H := Option.bind_eq_some_iff.mp H; obtain ⟨t231, A210, H⟩ := H; replace H : (if t231.size + ((rd_T67 l0 x8_1).f2).size ≤ 9223372036854775807 then (if x3_1.size + (t231.size + ((rd_T67 l0 x8_1).f2).size) ≤ 9223372036854775807 then (impl_itemsBytes.l0 k1 (x3_1 ++ (t231 ++ ((rd_T67 l0 x8_1).f2))) l0 (l0.length : Int) (wrap64 (x8_1 + 1))) else (none)) else (none)) = some r := H; have A21 := Aside0.mk A210; clear A210; by_cases c22 : t231.size + ((rd_T67 l0 x8_1).f2).size ≤ 9223372036854775807
         ·rw [if_pos c22] at H; have c22b0 := eq_true c22; have c22b1 : decide (t231.size + ((rd_T67 l0 x8_1).f2).size ≤ 9223372036854775807) = true := decide_eq_true c22; try have c22b2 : (9223372036854775807 < t231.size + ((rd_T67 l0 x8_1).f2).size) = False := eq_false (Nat.not_lt.2 c22)
          by_cases c23 : x3_1.size + (t231.size + ((rd_T67 l0 x8_1).f2).size) ≤ 9223372036854775807
          ·rw [if_pos c23] at H; have c23b0 := eq_true c23; have c23b1 : decide (x3_1.size + (t231.size + ((rd_T67 l0 x8_1).f2).size) ≤ 9223372036854775807) = true := decide_eq_true c23; try have c23b2 : (9223372036854775807 < x3_1.size + (t231.size + ((rd_T67 l0 x8_1).f2).size)) = False := eq_false (Nat.not_lt.2 c23)
           have H' := Aside0.mk H; clear H; have p227 : 0 ≤ (x8_1 : Int) := od_; have q227 : x8_1 < (l0.length : Int) := od_; obtain ⟨ad227, e227, hx227_0, hx227_1, hx227_2, hx227_3⟩ := at_T67 HR0.out x8_1 p227 q227; cases e227; replace hx227_0 := ce_ HB.out hx227_0; replace hx227_1 := ce_ HB.out hx227_1; replace hx227_2 := ce_ HB.out hx227_2; replace hx227_3 := ce_ HB.out hx227_3; replace p227 := eq_true p227; replace q227 := eq_true q227; try go_wp2_with (first | ((with_reducible refine gate_dst (N := 5) rfl ?_); refine be_ 5 67 (#[.int .i64 0, .int .i64 0, .string (⟨#[]⟩ : ByteArray), .int .i64 0]) ?_; intro gb228 hg w24 hbox hb; have n0_ := Aside0.mk (bs_ hb); have n1_ := Aside0.mk (hbox); have n2_ := Aside0.mk ((by rw [hg]; exact bz_ : w.heap.size ≤ gb228)); have n3_ := Aside0.mk ((by rw [hg]; exact bz_ : w.heap.size ≤ gb228)); clear HB; have HB := n0_; have BK228 := n1_; have GW228 := n2_; have GE228 := n3_; clear n0_ n1_ n2_ n3_; clear hb hbox hg; obtain ⟨hcz25_0, hcz25_1, hcz25_2, hcz25_3, hfz25_0, hfz25_1, hfz25_2, hfz25_3⟩ := cf4 BK228.out))
           have n0_ : Aside0 (((((w24.setCell ⟨gb228, 0, none⟩ (.int .i64 ((rd_T67 l0 x8_1).f0))).setCell ⟨gb228, 1, none⟩ (.int .i64 ((rd_T67 l0 x8_1).f1))).setCell ⟨gb228, 2, none⟩ (.string ((rd_T67 l0 x8_1).f2))).setCell ⟨gb228, 3, none⟩ (.int .i64 ((rd_T67 l0 x8_1).f3))).heap[gb228]? = some (.cells #[.int .i64 ((rd_T67 l0 x8_1).f0), .int .i64 ((rd_T67 l0 x8_1).f1), .string ((rd_T67 l0 x8_1).f2), .int .i64 ((rd_T67 l0 x8_1).f3)] 67 (0, 0))) := ⟨pb4_⟩
           have n1_ : Aside0 (Below w.heap.size w ((((w24.setCell ⟨gb228, 0, none⟩ (.int .i64 ((rd_T67 l0 x8_1).f0))).setCell ⟨gb228, 1, none⟩ (.int .i64 ((rd_T67 l0 x8_1).f1))).setCell ⟨gb228, 2, none⟩ (.string ((rd_T67 l0 x8_1).f2))).setCell ⟨gb228, 3, none⟩ (.int .i64 ((rd_T67 l0 x8_1).f3)))) := ⟨bq_ HB⟩
           (try clear BK228); (try clear HB); generalize ((((w24.setCell ⟨gb228, 0, none⟩ (.int .i64 ((rd_T67 l0 x8_1).f0))).setCell ⟨gb228, 1, none⟩ (.int .i64 ((rd_T67 l0 x8_1).f1))).setCell ⟨gb228, 2, none⟩ (.string ((rd_T67 l0 x8_1).f2))).setCell ⟨gb228, 3, none⟩ (.int .i64 ((rd_T67 l0 x8_1).f3))) = w26 at n0_ n1_ ⊢; have BK228 := n0_; have HB := n1_; clear n0_ n1_; have n0_ := Aside0.mk (blk_drew BK228.out); have n1_ := Aside0.mk (below_drew1 HB.out); clear BK228; clear HB; have BK228 := n0_; have HB := n1_; clear n0_ n1_; refine start_ (n := 10) (S := fun w' => w'.cell? ⟨gb228, 0, none⟩ = some (.int .i64 ((rd_T67 l0 x8_1).f0)) ∧ w'.cell? ⟨gb228, 1, none⟩ = some (.int .i64 ((rd_T67 l0 x8_1).f1)) ∧ w'.cell? ⟨gb228, 2, none⟩ = some (.string ((rd_T67 l0 x8_1).f2)) ∧ w'.cell? ⟨gb228, 3, none⟩ = some (.int .i64 ((rd_T67 l0 x8_1).f3))) (ds := []) #[false, false, false, false, false, false, false, false, false, false] (by kernel_rfl) rfl rfl ⟨(blk_cell BK228.out 0).trans rfl, (blk_cell BK228.out 1).trans rfl, (blk_cell BK228.out 2).trans rfl, (blk_cell BK228.out 3).trans rfl⟩ (fun hHeld => ?_); refine with_tabW impl_itemsBytes.tab11 impl_itemsBytes.bits11 (fun HT_ HW_ => ?_); generalize w26.drew = w27 at BK228 HB hHeld ⊢; refine pP 0 34 (mB 10 1) HT_ ?_
           refine pP 1 35 (mB 10 3) HT_ ?_
           refine pP 5 39 (mB 10 35) HT_ ?_
           refine tK 2 36 (mB 10 39) HT_ HW_ hHeld ?_
           refine pP 3 37 (mB 10 47) HT_ ?_
           refine tK 6 40 (mB 10 111) HT_ HW_ hHeld ?_
           refine oN 4 (some 38) (mB 10 127) HT_ (fun K hK => ?_); refine goes_ Try.func64 (by kernel_rfl) rfl #[.int .i64 3, .int .i64 (((rd_T67 l0 x8_1).f2).size : Int)] (by rfl) rfl rfl ma_ ?_; with_reducible refine (impl_head.calls 3 (((rd_T67 l0 x8_1).f2).size : Int) t231 _ A21.out).mono ?_
           rintro e w28 ⟨rfl, hb⟩
           refine ⟨_, rfl, ?_⟩; have n0_ := Aside0.mk (blk_below (g := gb228) (o := .cells #[.int .i64 ((rd_T67 l0 x8_1).f0), .int .i64 ((rd_T67 l0 x8_1).f1), .string ((rd_T67 l0 x8_1).f2), .int .i64 ((rd_T67 l0 x8_1).f3)] 67 (0, 0)) pq_ hb); have n1_ := Aside0.mk (below_step (bq_ HB) hb); clear BK228; clear HB; have BK228 := n0_; have HB := n1_; clear n0_ n1_; (try clear hb); (try clear hb2); (try clear hk); (try clear hi); refine hK.out _ _ ⟨(blk_cell BK228.out 0).trans rfl, (blk_cell BK228.out 1).trans rfl, (blk_cell BK228.out 2).trans rfl, (blk_cell BK228.out 3).trans rfl⟩ (fun hHeld => ?_); clear hK K; refine nO 38 ?_
           refine pP 7 41 (mB 10 255) HT_ ?_
           refine pP 8 42 (mB 10 511) HT_ ?_
           refine pP 9 3 (mB 10 1023) HT_ ?_
           refine done_ (done_of HT_.out (by kernel_rfl)) ?_; try go_wp2
           go_roundg k1
           case measure => have := HK1.out; omega
           case rel => exact ⟨(x3_1 ++ (t231 ++ ((rd_T67 l0 x8_1).f2))), (wrap64 (x8_1 + 1)), fs_, fs_, H', ⟨by have := HK1.out; omega⟩, ⟨bq_ HB⟩⟩
          ·rw [if_neg c23] at H; exact no_ H
         ·rw [if_neg c22] at H; exact no_ H
        ·rw [if_neg c20] at H; have c20b0 : (((rd_T67 l0 x8_1).f0) == 3) = false := beq_eq_false_iff_ne.mpr c20; have c20b1 : (((rd_T67 l0 x8_1).f0) != 3) = true := bne_iff_ne.mpr c20; by_cases c29 : ((rd_T67 l0 x8_1).f0) = 4
         ·rw [if_pos c29] at H; have c29b0 : (((rd_T67 l0 x8_1).f0) == 4) = true := beq_iff_eq.mpr c29; have c29b1 : (((rd_T67 l0 x8_1).f0) != 4) = false := bne_eq_false_iff_eq.mpr c29; clear c29; replace H := Option.bind_eq_some_iff.mp H; obtain ⟨t232, A300, H⟩ := H; replace H : (if x3_1.size + t232.size ≤ 9223372036854775807 then (impl_itemsBytes.l0 k1 (x3_1 ++ t232) l0 (l0.length : Int) (wrap64 (x8_1 + 1))) else (none)) = some r := H; have A30 := Aside0.mk A300; clear A300; by_cases c31 : x3_1.size + t232.size ≤ 9223372036854775807
          ·rw [if_pos c31] at H; have c31b0 := eq_true c31; have c31b1 : decide (x3_1.size + t232.size ≤ 9223372036854775807) = true := decide_eq_true c31; try have c31b2 : (9223372036854775807 < x3_1.size + t232.size) = False := eq_false (Nat.not_lt.2 c31)
           have H' := Aside0.mk H; clear H; have p227 : 0 ≤ (x8_1 : Int) := od_; have q227 : x8_1 < (l0.length : Int) := od_; obtain ⟨ad227, e227, hx227_0, hx227_1, hx227_2, hx227_3⟩ := at_T67 HR0.out x8_1 p227 q227; cases e227; replace hx227_0 := ce_ HB.out hx227_0; replace hx227_1 := ce_ HB.out hx227_1; replace hx227_2 := ce_ HB.out hx227_2; replace hx227_3 := ce_ HB.out hx227_3; replace p227 := eq_true p227; replace q227 := eq_true q227; go_wp2_with (first | ((with_reducible refine gate_dst (N := 5) rfl ?_); refine be_ 5 67 (#[.int .i64 0, .int .i64 0, .string (⟨#[]⟩ : ByteArray), .int .i64 0]) ?_; intro gb228 hg w32 hbox hb; have n0_ := Aside0.mk (bs_ hb); have n1_ := Aside0.mk (hbox); have n2_ := Aside0.mk ((by rw [hg]; exact bz_ : w.heap.size ≤ gb228)); have n3_ := Aside0.mk ((by rw [hg]; exact bz_ : w.heap.size ≤ gb228)); clear HB; have HB := n0_; have BK228 := n1_; have GW228 := n2_; have GE228 := n3_; clear n0_ n1_ n2_ n3_; clear hb hbox hg; obtain ⟨hcz33_0, hcz33_1, hcz33_2, hcz33_3, hfz33_0, hfz33_1, hfz33_2, hfz33_3⟩ := cf4 BK228.out) | ((with_reducible refine gate_callee (f := 64) rfl ?_); refine goesL_ (some 48) rfl rfl Try.func64 (by kernel_rfl) rfl #[.int .i64 4, .int .i64 ((rd_T67 l0 x8_1).f3)] rfl ma_ ?_; (with_reducible refine (impl_head.calls 4 ((rd_T67 l0 x8_1).f3) t232 _ A30.out).mono ?_); rintro e w34 ⟨rfl, hb⟩; refine ⟨_, rfl, ?_⟩; have n0_ := Aside0.mk (blk_below (g := gb228) (o := .cells #[.int .i64 ((rd_T67 l0 x8_1).f0), .int .i64 ((rd_T67 l0 x8_1).f1), .string ((rd_T67 l0 x8_1).f2), .int .i64 ((rd_T67 l0 x8_1).f3)] 67 (0, 0)) pb4_ hb); have n1_ := Aside0.mk (below_step (bq_ HB) hb); clear BK228; clear HB; have BK228 := n0_; have HB := n1_; clear n0_ n1_; (try clear hb); (try clear hb2); (try clear hk); (try clear hi))); go_roundg k1
           case measure => have := HK1.out; omega
           case rel => exact ⟨(x3_1 ++ t232), (wrap64 (x8_1 + 1)), fs_, fs_, H', ⟨by have := HK1.out; omega⟩, ⟨bq_ HB⟩⟩
          ·rw [if_neg c31] at H; exact no_ H
         ·rw [if_neg c29] at H; have c29b0 : (((rd_T67 l0 x8_1).f0) == 4) = false := beq_eq_false_iff_ne.mpr c29; have c29b1 : (((rd_T67 l0 x8_1).f0) != 4) = true := bne_iff_ne.mpr c29; have H' := Aside0.mk H; clear H; have p227 : 0 ≤ (x8_1 : Int) := od_; have q227 : x8_1 < (l0.length : Int) := od_; obtain ⟨ad227, e227, hx227_0, hx227_1, hx227_2, hx227_3⟩ := at_T67 HR0.out x8_1 p227 q227; cases e227; replace hx227_0 := ce_ HB.out hx227_0; replace hx227_1 := ce_ HB.out hx227_1; replace hx227_2 := ce_ HB.out hx227_2; replace hx227_3 := ce_ HB.out hx227_3; replace p227 := eq_true p227; replace q227 := eq_true q227; go_wp2_with (first | ((with_reducible refine gate_dst (N := 5) rfl ?_); refine be_ 5 67 (#[.int .i64 0, .int .i64 0, .string (⟨#[]⟩ : ByteArray), .int .i64 0]) ?_; intro gb228 hg w35 hbox hb; have n0_ := Aside0.mk (bs_ hb); have n1_ := Aside0.mk (hbox); have n2_ := Aside0.mk ((by rw [hg]; exact bz_ : w.heap.size ≤ gb228)); have n3_ := Aside0.mk ((by rw [hg]; exact bz_ : w.heap.size ≤ gb228)); clear HB; have HB := n0_; have BK228 := n1_; have GW228 := n2_; have GE228 := n3_; clear n0_ n1_ n2_ n3_; clear hb hbox hg; obtain ⟨hcz36_0, hcz36_1, hcz36_2, hcz36_3, hfz36_0, hfz36_1, hfz36_2, hfz36_3⟩ := cf4 BK228.out)); go_roundg k1
          case measure => have := HK1.out; omega
          case rel => exact ⟨(x3_1), (wrap64 (x8_1 + 1)), fs_, fs_, H', ⟨by have := HK1.out; omega⟩, ⟨bq_ HB⟩⟩
     ·rw [if_neg c4] at H; exact no_ H
    ·rw [if_neg c3] at H; exact no_ H
   ·rw [if_neg c2] at H; have c2b0 : decide (x8_1 < (l0.length : Int)) = false := decide_eq_false c2; clear c2; obtain rfl := Option.some.inj H; go_wp2; go_ret; exact ⟨er_, bq_ HB⟩
mutual
def impl_BundleBytes.j0 : Nat → Int → Int → Int → Bool → Int → Int → Int → Int → Int → Int → ByteArray → Option (ByteArray × Bool)
 | 0, _, _, _, _, _, _, _, _, _, _, _ => none
 | k + 1, x4, x234000, x234001, x234002, x234003, x234004, x234005, x234006, x234007, x234008, x234009 => (some (([x234000, x234001, x4, x234003, x234004, x234005, x234006, x234007, x234008] : List Int) : List Int)).bind fun y238 => (impl_BundleBytes.l0 k (([(⟨4, 0, (⟨#[]⟩ : ByteArray), 10⟩ : S67)] : List (S67))) y238 (y238.length : Int) 0 x234000 x234001 x234002 x234003 x234004 x234005 x234006 x234007 x234008 x234009)
def impl_BundleBytes.l0 : Nat → List (S67) → List Int → Int → Int → Int → Int → Bool → Int → Int → Int → Int → Int → Int → ByteArray → Option (ByteArray × Bool)
 | 0, _, _, _, _, _, _, _, _, _, _, _, _, _, _ => none
 | k + 1, x5, x32, x33, x34, x234000, x234001, x234002, x234003, x234004, x234005, x234006, x234007, x234008, x234009 => if x34 < x33 then (if 0 ≤ x34 then (if x34 < (x32.length : Int) then (if x5.length < 3518437208883 then (impl_BundleBytes.l0 k (x5 ++ [(⟨1, rd x32 x34, (⟨#[]⟩ : ByteArray), 0⟩ : S67)]) x32 x33 (wrap64 (x34 + 1)) x234000 x234001 x234002 x234003 x234004 x234005 x234006 x234007 x234008 x234009) else (none)) else (none)) else (none)) else (if x5.length < 3518437208883 then ((impl_itemsBytes.f k (x5 ++ [(⟨2, 0, x234009, 0⟩ : S67)])).bind fun t248 => ((impl_WithCrc.f k t248).bind fun bt249 => (some (bt249.1, bt249.2)))) else (none))
end
def impl_BundleBytes.f (k : Nat) (a0_0 : Int) (a0_1 : Int) (a0_2 : Bool) (a0_3 : Int) (a0_4 : Int) (a0_5 : Int) (a0_6 : Int) (a0_7 : Int) (a0_8 : Int) (a0_9 : ByteArray) : Option (ByteArray × Bool) := (impl_GoodBundle.f k a0_0 a0_1 a0_2 a0_3 a0_4 a0_5 a0_6 a0_7 a0_8 a0_9).bind fun t234 => (if t234 = true then (if a0_2 = true then (impl_BundleBytes.j0 k 1 a0_0 a0_1 a0_2 a0_3 a0_4 a0_5 a0_6 a0_7 a0_8 a0_9) else (impl_BundleBytes.j0 k 0 a0_0 a0_1 a0_2 a0_3 a0_4 a0_5 a0_6 a0_7 a0_8 a0_9)) else (some ((⟨#[]⟩ : ByteArray), false)))
theorem impl_BundleBytes.mono_l : ∀ k, (∀ y0 y1 y2 y3 y4 y5 y6 y7 y8 y9 y10, LeO (impl_BundleBytes.j0 k y0 y1 y2 y3 y4 y5 y6 y7 y8 y9 y10) (impl_BundleBytes.j0 (k + 1) y0 y1 y2 y3 y4 y5 y6 y7 y8 y9 y10)) ∧ (∀ y0 y1 y2 y3 y4 y5 y6 y7 y8 y9 y10 y11 y12 y13, LeO (impl_BundleBytes.l0 k y0 y1 y2 y3 y4 y5 y6 y7 y8 y9 y10 y11 y12 y13) (impl_BundleBytes.l0 (k + 1) y0 y1 y2 y3 y4 y5 y6 y7 y8 y9 y10 y11 y12 y13))
 | 0 => ⟨fun _ _ _ _ _ _ _ _ _ _ _ r h => by simp [impl_BundleBytes.j0] at h, fun _ _ _ _ _ _ _ _ _ _ _ _ _ _ r h => by simp [impl_BundleBytes.l0] at h⟩
 | k + 1 => by
  obtain ⟨ih0, ih1⟩ := impl_BundleBytes.mono_l k; refine ⟨?_, ?_⟩
  ·intro y0 y1 y2 y3 y4 y5 y6 y7 y8 y9 y10; unfold impl_BundleBytes.j0
   repeat' first
   | (with_reducible exact ih0 _ _ _ _ _ _ _ _ _ _ _)
   | (with_reducible exact ih1 _ _ _ _ _ _ _ _ _ _ _ _ _ _)
   | (with_reducible exact impl_GoodBundle.mono _ _ _ _ _ _ _ _ _ _ _)
   | (with_reducible exact impl_WithCrc.mono _ _)
   | (with_reducible exact impl_itemsBytes.mono _ _)
   | (with_reducible exact LeO.refl _)
   | (with_reducible exact LeO.none _)
   | (with_reducible refine LeO.ite ?_ ?_)
   | (with_reducible refine LeO.bind ?_ (fun _ => ?_))
   | exact ih0 _ _ _ _ _ _ _ _ _ _ _
   | exact ih1 _ _ _ _ _ _ _ _ _ _ _ _ _ _
   | exact impl_GoodBundle.mono _ _ _ _ _ _ _ _ _ _ _
   | exact impl_WithCrc.mono _ _
   | exact impl_itemsBytes.mono _ _
   | exact LeO.none _
   | refine LeO.ite ?_ ?_
   | refine LeO.bind ?_ (fun _ => ?_)
  ·intro y0 y1 y2 y3 y4 y5 y6 y7 y8 y9 y10 y11 y12 y13; unfold impl_BundleBytes.l0
   repeat' first
   | (with_reducible exact ih0 _ _ _ _ _ _ _ _ _ _ _)
   | (with_reducible exact ih1 _ _ _ _ _ _ _ _ _ _ _ _ _ _)
   | (with_reducible exact impl_GoodBundle.mono _ _ _ _ _ _ _ _ _ _ _)
   | (with_reducible exact impl_WithCrc.mono _ _)
   | (with_reducible exact impl_itemsBytes.mono _ _)
   | (with_reducible exact LeO.refl _)
   | (with_reducible exact LeO.none _)
   | (with_reducible refine LeO.ite ?_ ?_)
   | (with_reducible refine LeO.bind ?_ (fun _ => ?_))
   | exact ih0 _ _ _ _ _ _ _ _ _ _ _
   | exact ih1 _ _ _ _ _ _ _ _ _ _ _ _ _ _
   | exact impl_GoodBundle.mono _ _ _ _ _ _ _ _ _ _ _
   | exact impl_WithCrc.mono _ _
   | exact impl_itemsBytes.mono _ _
   | exact LeO.none _
   | refine LeO.ite ?_ ?_
   | refine LeO.bind ?_ (fun _ => ?_)
theorem impl_BundleBytes.mono : ∀ a0 a1 a2 a3 a4 a5 a6 a7 a8 a9 k, LeO (impl_BundleBytes.f k a0 a1 a2 a3 a4 a5 a6 a7 a8 a9) (impl_BundleBytes.f (k + 1) a0 a1 a2 a3 a4 a5 a6 a7 a8 a9) := by
 intro a0 a1 a2 a3 a4 a5 a6 a7 a8 a9 k; obtain ⟨ih0, ih1⟩ := impl_BundleBytes.mono_l k; unfold impl_BundleBytes.f
 repeat' first
   | (with_reducible exact ih0 _ _ _ _ _ _ _ _ _ _ _)
   | (with_reducible exact ih1 _ _ _ _ _ _ _ _ _ _ _ _ _ _)
   | (with_reducible exact impl_GoodBundle.mono _ _ _ _ _ _ _ _ _ _ _)
   | (with_reducible exact impl_WithCrc.mono _ _)
   | (with_reducible exact impl_itemsBytes.mono _ _)
   | (with_reducible exact LeO.refl _)
   | (with_reducible exact LeO.none _)
   | (with_reducible refine LeO.ite ?_ ?_)
   | (with_reducible refine LeO.bind ?_ (fun _ => ?_))
   | exact ih0 _ _ _ _ _ _ _ _ _ _ _
   | exact ih1 _ _ _ _ _ _ _ _ _ _ _ _ _ _
   | exact impl_GoodBundle.mono _ _ _ _ _ _ _ _ _ _ _
   | exact impl_WithCrc.mono _ _
   | exact impl_itemsBytes.mono _ _
   | exact LeO.none _
   | refine LeO.ite ?_ ?_
   | refine LeO.bind ?_ (fun _ => ?_)
set_option maxHeartbeats 8000000 in
set_option maxRecDepth 100000 in
theorem impl_BundleBytes.calls (k : Nat) (a0_0 : Int) (a0_1 : Int) (a0_2 : Bool) (a0_3 : Int) (a0_4 : Int) (a0_5 : Int) (a0_6 : Int) (a0_7 : Int) (a0_8 : Int) (a0_9 : ByteArray) (r1 : ByteArray) (r2 : Bool) (w : World) (h : impl_BundleBytes.f k a0_0 a0_1 a0_2 a0_3 a0_4 a0_5 a0_6 a0_7 a0_8 a0_9 = some (r1, r2)) :
  Calls Try.prog 17 #[.agg #[.int .i64 a0_0, .int .i64 a0_1, .bool a0_2, .int .i64 a0_3, .int .i64 a0_4, .int .i64 a0_5, .int .i64 a0_6, .int .i64 a0_7, .int .i64 a0_8, .string a0_9]] w fun e w' => e = .returned (.tuple #[.string r1, .bool r2]) ∧ Below w.heap.size w w' := by
 have hu32 := Try.underlying32; have hu67 := Try.underlying67; have HB := Aside0.mk (Below.refl w.heap.size w); have H : ((impl_GoodBundle.f k a0_0 a0_1 a0_2 a0_3 a0_4 a0_5 a0_6 a0_7 a0_8 a0_9).bind fun t234 => (if t234 = true then (if a0_2 = true then (impl_BundleBytes.j0 k 1 a0_0 a0_1 a0_2 a0_3 a0_4 a0_5 a0_6 a0_7 a0_8 a0_9) else (impl_BundleBytes.j0 k 0 a0_0 a0_1 a0_2 a0_3 a0_4 a0_5 a0_6 a0_7 a0_8 a0_9)) else (some ((⟨#[]⟩ : ByteArray), false)))) = some (r1, r2) := h; clear h; replace H := Option.bind_eq_some_iff.mp H; obtain ⟨t234, A20, H⟩ := H; replace H : (if t234 = true then (if a0_2 = true then (impl_BundleBytes.j0 k 1 a0_0 a0_1 a0_2 a0_3 a0_4 a0_5 a0_6 a0_7 a0_8 a0_9) else (impl_BundleBytes.j0 k 0 a0_0 a0_1 a0_2 a0_3 a0_4 a0_5 a0_6 a0_7 a0_8 a0_9)) else (some ((⟨#[]⟩ : ByteArray), false))) = some (r1, r2) := H; have A2 := Aside0.mk A20; clear A20; by_cases c3 : t234 = true
 ·subst c3; have H1 : (if a0_2 = true then (impl_BundleBytes.j0 k 1 a0_0 a0_1 a0_2 a0_3 a0_4 a0_5 a0_6 a0_7 a0_8 a0_9) else (impl_BundleBytes.j0 k 0 a0_0 a0_1 a0_2 a0_3 a0_4 a0_5 a0_6 a0_7 a0_8 a0_9)) = some (r1, r2) := by rw [if_pos rfl] at H; exact H
  clear H; have H := H1; clear H1; have HC4 := Aside0.mk H; clear H
  go_enter Try.func17, Try.ntmps17
  go_upto_if 12 with (first | ((with_reducible refine gate_dst (N := 1) rfl ?_); refine be_ 1 32 #[.int .i64 a0_0, .int .i64 a0_1, .bool a0_2, .int .i64 a0_3, .int .i64 a0_4, .int .i64 a0_5, .int .i64 a0_6, .int .i64 a0_7, .int .i64 a0_8, .string a0_9] ?_; intro gb233 hg w5 hbox hb; have n0_ := Aside0.mk (bs_ hb); have n1_ := Aside0.mk (hbox); have n2_ := Aside0.mk ((by rw [hg]; exact bz_ : w.heap.size ≤ gb233)); have n3_ := Aside0.mk ((by rw [hg]; exact bz_ : w.heap.size ≤ gb233)); clear HB; have HB := n0_; have BK233 := n1_; have GW233 := n2_; have GE233 := n3_; clear n0_ n1_ n2_ n3_; clear hb hbox hg; obtain ⟨hcz6_0, hcz6_1, hcz6_2, hcz6_3, hcz6_4, hcz6_5, hcz6_6, hcz6_7, hcz6_8, hcz6_9, hfz6_0, hfz6_1, hfz6_2, hfz6_3, hfz6_4, hfz6_5, hfz6_6, hfz6_7, hfz6_8, hfz6_9⟩ := cf10 BK233.out) | ((with_reducible refine gate_callee (f := 19) rfl ?_); refine goesL_ (some 9) rfl rfl Try.func19 (by kernel_rfl) rfl #[.agg #[.int .i64 a0_0, .int .i64 a0_1, .bool a0_2, .int .i64 a0_3, .int .i64 a0_4, .int .i64 a0_5, .int .i64 a0_6, .int .i64 a0_7, .int .i64 a0_8, .string a0_9]] rfl ma_ ?_; (with_reducible refine (impl_GoodBundle.calls k a0_0 a0_1 a0_2 a0_3 a0_4 a0_5 a0_6 a0_7 a0_8 a0_9 true _ A2.out).mono ?_); rintro e w7 ⟨rfl, hb⟩; refine ⟨_, rfl, ?_⟩; have n0_ := Aside0.mk (blk_below (g := gb233) (o := .cells #[.int .i64 a0_0, .int .i64 a0_1, .bool a0_2, .int .i64 a0_3, .int .i64 a0_4, .int .i64 a0_5, .int .i64 a0_6, .int .i64 a0_7, .int .i64 a0_8, .string a0_9] 32 (0, 0)) pq_ hb); have n1_ := Aside0.mk (below_step (bq_ HB) hb); clear BK233; clear HB; have BK233 := n0_; have HB := n1_; clear n0_ n1_; (try clear hb); (try clear hb2); (try clear hk); (try clear hi); obtain ⟨hcz8_0, hcz8_1, hcz8_2, hcz8_3, hcz8_4, hcz8_5, hcz8_6, hcz8_7, hcz8_8, hcz8_9, hfz8_0, hfz8_1, hfz8_2, hfz8_3, hfz8_4, hfz8_5, hfz8_6, hfz8_7, hfz8_8, hfz8_9⟩ := cf10 BK233.out))
  (try simp only [Act.put, List.setIfInBounds_toArray, List.set_cons_zero, List.set_cons_succ])
  go_cut [4] (fun v4 wc => ∃ (kq : Nat) (x4_3 : Int), v4 = .int .i64 x4_3 ∧ Aside0 (impl_BundleBytes.j0 kq x4_3 a0_0 a0_1 a0_2 a0_3 a0_4 a0_5 a0_6 a0_7 a0_8 a0_9 = some (r1, r2)) ∧ Aside0 (kq ≤ k) ∧ Aside0 (wc.heap[gb233]? = some (.cells #[.int .i64 a0_0, .int .i64 a0_1, .bool a0_2, .int .i64 a0_3, .int .i64 a0_4, .int .i64 a0_5, .int .i64 a0_6, .int .i64 a0_7, .int .i64 a0_8, .string a0_9] 32 (0, 0))) ∧ Aside0 (Below w.heap.size w wc))
  case first =>
   have H := HC4.out; clear HC4; by_cases c9 : a0_2 = true
   ·subst c9; have H1 : (impl_BundleBytes.j0 k 1 a0_0 a0_1 true a0_3 a0_4 a0_5 a0_6 a0_7 a0_8 a0_9) = some (r1, r2) := by rw [if_pos rfl] at H; exact H
    clear H; have H := H1; clear H1; have H' := Aside0.mk H; clear H; go_wp2; go_meet
    case rel => exact ⟨_, (1), fs_, H', ⟨by first | omega | exact Nat.le_refl _⟩, ⟨pq_⟩, ⟨bq_ HB⟩⟩
   ·replace c9 := Bool.eq_false_iff.mpr c9; subst c9; have H1 : (impl_BundleBytes.j0 k 0 a0_0 a0_1 false a0_3 a0_4 a0_5 a0_6 a0_7 a0_8 a0_9) = some (r1, r2) := by rw [if_neg (show ¬ (false = true) by decide)] at H; exact H
    clear H; have H := H1; clear H1; have H' := Aside0.mk H; clear H; go_wp2; go_meet
    case rel => exact ⟨_, (0), fs_, H', ⟨by first | omega | exact Nat.le_refl _⟩, ⟨pq_⟩, ⟨bq_ HB⟩⟩
  case rest =>
   clear HC4; try clear c1
   try clear p2
   try clear c3
   try clear c9
   try clear hcz6_0
   try clear hcz6_1
   try clear hcz6_2
   try clear hcz6_3
   try clear hcz6_4
   try clear hcz6_5
   try clear hcz6_6
   try clear hcz6_7
   try clear hcz6_8
   try clear hcz6_9
   try clear hcz8_0
   try clear hcz8_1
   try clear hcz8_2
   try clear hcz8_3
   try clear hcz8_4
   try clear hcz8_5
   try clear hcz8_6
   try clear hcz8_7
   try clear hcz8_8
   try clear hcz8_9
   try clear hfz6_0
   try clear hfz6_1
   try clear hfz6_2
   try clear hfz6_3
   try clear hfz6_4
   try clear hfz6_5
   try clear hfz6_6
   try clear hfz6_7
   try clear hfz6_8
   try clear hfz6_9
   try clear hfz8_0
   try clear hfz8_1
   try clear hfz8_2
   try clear hfz8_3
   try clear hfz8_4
   try clear hfz8_5
   try clear hfz8_6
   try clear hfz8_7
   try clear hfz8_8
   try clear hfz8_9
   obtain ⟨kq, x4_3, rfl, HA, HJ3, BK233, HB⟩ := hcut; cases kq with
   | zero => exact absurd HA.out (by simp [impl_BundleBytes.j0])
   | succ kj3 =>
    have H := HA.out; clear HA; simp only [impl_BundleBytes.j0] at H; obtain ⟨y235, hy235⟩ : ∃ y_ : List (S67), y_ = (([(⟨4, 0, (⟨#[]⟩ : ByteArray), 10⟩ : S67)] : List (S67))) := ⟨_, rfl⟩
    replace H : ((some (([a0_0, a0_1, x4_3, a0_3, a0_4, a0_5, a0_6, a0_7, a0_8] : List Int) : List Int)).bind fun y238 => (impl_BundleBytes.l0 kj3 y235 y238 (y238.length : Int) 0 a0_0 a0_1 a0_2 a0_3 a0_4 a0_5 a0_6 a0_7 a0_8 a0_9)) = some (r1, r2) := by first | (rw [hy235]; with_reducible exact H) | (have H2_ := (Option.bind_some _ _).symm.trans H; rw [hy235]; with_reducible exact H2_) | (have H2_ := (Option.bind_some _ _).symm.trans H; with_reducible exact H2_) | with_reducible exact H | (rw [hy235]; exact H) | exact H
    have Ny235 := Aside0.mk hy235; clear hy235; obtain ⟨y238, hy238⟩ : ∃ y_ : List Int, y_ = (([a0_0, a0_1, x4_3, a0_3, a0_4, a0_5, a0_6, a0_7, a0_8] : List Int)) := ⟨_, rfl⟩
    replace H : (impl_BundleBytes.l0 kj3 y235 y238 (y238.length : Int) 0 a0_0 a0_1 a0_2 a0_3 a0_4 a0_5 a0_6 a0_7 a0_8 a0_9) = some (r1, r2) := by first | (rw [hy238]; with_reducible exact H) | (have H2_ := (Option.bind_some _ _).symm.trans H; rw [hy238]; with_reducible exact H2_) | (have H2_ := (Option.bind_some _ _).symm.trans H; with_reducible exact H2_) | with_reducible exact H | (rw [hy238]; exact H) | exact H
    have Ny238 := Aside0.mk hy238; clear hy238; have H' := Aside0.mk H; clear H; go_wp2_with (first | ((with_reducible refine gate_dst (N := 14) rfl ?_); refine Kd.R_lit k67 _ 67 ?hg (N := 14) ?hd (xs := ([(⟨4, 0, (⟨#[]⟩ : ByteArray), 10⟩ : S67)] : List (S67))) (inner := [.int .i64 4, .int .i64 0, .string (⟨#[]⟩ : ByteArray), .int .i64 10]) (ok := fun _ => True) (okp := fun _ => True) ?hr ?hp (fun _ hk => hk) trivial (Below.refl _ _) (Nat.le_refl _) (by simp) ?_; (case hd => rfl); (case hg => rfl); (case hr => first | (go_simp; done) | (go_simp; rfl)); (case hp => exact (Reps.c4 (show Kd.M k67 _ _ _ (⟨4, 0, (⟨#[]⟩ : ByteArray), 10⟩ : S67) [.int .i64 4, .int .i64 0, .string (⟨#[]⟩ : ByteArray), .int .i64 10] from (k67_mkM _ _ _ (⟨4, 0, (⟨#[]⟩ : ByteArray), 10⟩ : S67) )) (Reps.none _ _))); intro v236 w10 ho11 hb hg_ hnew_; clear hg_ hnew_; (first | rw [← Ny235.out] at ho11 | (simp only [Int.reduceToNat] at ho11; rw [← Ny235.out] at ho11)); have n0_ := Aside0.mk (Kd.R_lower ho11 (below_size (bq_ HB))); have n1_ := Aside0.mk (blk_below (g := gb233) (o := .cells #[.int .i64 a0_0, .int .i64 a0_1, .bool a0_2, .int .i64 a0_3, .int .i64 a0_4, .int .i64 a0_5, .int .i64 a0_6, .int .i64 a0_7, .int .i64 a0_8, .string a0_9] 32 (0, 0)) pq_ hb); have n2_ := Aside0.mk (below_step (bq_ HB) hb); clear BK233; clear HB; have HO237 := n0_; have BK233 := n1_; have HB := n2_; clear n0_ n1_ n2_; clear hb ho11; obtain ⟨hcz12_0, hcz12_1, hcz12_2, hcz12_3, hcz12_4, hcz12_5, hcz12_6, hcz12_7, hcz12_8, hcz12_9, hfz12_0, hfz12_1, hfz12_2, hfz12_3, hfz12_4, hfz12_5, hfz12_6, hfz12_7, hfz12_8, hfz12_9⟩ := cf10 BK233.out) | ((with_reducible refine gate_dst (N := 32) rfl ?_); refine Kd.R_lit (Kd.int .i64) _ 3 ?hg (N := 32) ?hd (xs := ([a0_0, a0_1, x4_3, a0_3, a0_4, a0_5, a0_6, a0_7, a0_8] : List Int)) (inner := [.int .i64 a0_0, .int .i64 a0_1, .int .i64 x4_3, .int .i64 a0_3, .int .i64 a0_4, .int .i64 a0_5, .int .i64 a0_6, .int .i64 a0_7, .int .i64 a0_8]) (ok := fun _ => True) (okp := fun _ => True) ?hr ?hp (fun _ hk => hk) trivial (Below.refl _ _) (Nat.le_refl _) (by simp) ?_; (case hd => rfl); (case hg => rfl); (case hr => first | (go_simp; done) | (go_simp; rfl)); (case hp => exact (Reps.one (show Kd.M (Kd.int .i64) _ _ _ a0_0 [.int .i64 a0_0] from rfl) (Reps.one (show Kd.M (Kd.int .i64) _ _ _ a0_1 [.int .i64 a0_1] from rfl) (Reps.one (show Kd.M (Kd.int .i64) _ _ _ x4_3 [.int .i64 x4_3] from rfl) (Reps.one (show Kd.M (Kd.int .i64) _ _ _ a0_3 [.int .i64 a0_3] from rfl) (Reps.one (show Kd.M (Kd.int .i64) _ _ _ a0_4 [.int .i64 a0_4] from rfl) (Reps.one (show Kd.M (Kd.int .i64) _ _ _ a0_5 [.int .i64 a0_5] from rfl) (Reps.one (show Kd.M (Kd.int .i64) _ _ _ a0_6 [.int .i64 a0_6] from rfl) (Reps.one (show Kd.M (Kd.int .i64) _ _ _ a0_7 [.int .i64 a0_7] from rfl) (Reps.one (show Kd.M (Kd.int .i64) _ _ _ a0_8 [.int .i64 a0_8] from rfl) (Reps.none _ _))))))))))); intro v239 w13 ho14 hb hg_ hnew_; clear hg_ hnew_; (first | rw [← Ny238.out] at ho14 | (simp only [Int.reduceToNat] at ho14; rw [← Ny238.out] at ho14)); have n0_ := Aside0.mk (Kd.R_below (by (with_reducible repeat (first | apply Kd.R_alloc | apply Kd.R_drewN | apply Kd.R_drew)); exact HO237.out) hb); have n1_ := Aside0.mk (Kd.R_lower ho14 (below_size (bq_ HB))); have n2_ := Aside0.mk (blk_below (g := gb233) (o := .cells #[.int .i64 a0_0, .int .i64 a0_1, .bool a0_2, .int .i64 a0_3, .int .i64 a0_4, .int .i64 a0_5, .int .i64 a0_6, .int .i64 a0_7, .int .i64 a0_8, .string a0_9] 32 (0, 0)) pq_ hb); have n3_ := Aside0.mk (below_step (bq_ HB) hb); clear HO237; clear BK233; clear HB; have HO237 := n0_; have HO240 := n1_; have BK233 := n2_; have HB := n3_; clear n0_ n1_ n2_ n3_; clear hb ho14; obtain ⟨Ao15, co15, eo15⟩ := Kd.R_slice HO240.out; subst eo15))
    go_loopg [5, 34] kj3 (fun kq v5 v34 w' => ∃ (x5_2 : List (S67)) (x34_2 : Int), v34 = .int .i64 x34_2 ∧ Aside0 (impl_BundleBytes.l0 kq x5_2 y238 (y238.length : Int) x34_2 a0_0 a0_1 a0_2 a0_3 a0_4 a0_5 a0_6 a0_7 a0_8 a0_9 = some (r1, r2)) ∧ Aside0 (kq ≤ kj3) ∧ Aside0 (Kd.R k67 67 w' w.heap.size (fun _ => True) v5 x5_2) ∧ Aside0 (Kd.R (Kd.int .i64) 3 w' w.heap.size (fun _ => True) (.slice Ao15 y238.length co15) y238) ∧ Aside0 (w'.heap[gb233]? = some (.cells #[.int .i64 a0_0, .int .i64 a0_1, .bool a0_2, .int .i64 a0_3, .int .i64 a0_4, .int .i64 a0_5, .int .i64 a0_6, .int .i64 a0_7, .int .i64 a0_8, .string a0_9] 32 (0, 0))) ∧ Aside0 (Below w.heap.size w w'))
    case atStart => exact ⟨(y235), (0), fs_, H', ⟨Nat.le_refl _⟩, ⟨by (with_reducible repeat (first | apply Kd.R_alloc | apply Kd.R_drewN | apply Kd.R_drew)); exact HO237.out⟩, ⟨by (with_reducible repeat (first | apply Kd.R_alloc | apply Kd.R_drewN | apply Kd.R_drew)); exact HO240.out⟩, ⟨pq_⟩, ⟨bq_ HB⟩⟩
    case round =>
     clear H'; try clear c1
     try clear p2
     try clear c3
     try clear c4
     try clear c9
     try clear hcz12_0
     try clear hcz12_1
     try clear hcz12_2
     try clear hcz12_3
     try clear hcz12_4
     try clear hcz12_5
     try clear hcz12_6
     try clear hcz12_7
     try clear hcz12_8
     try clear hcz12_9
     try clear hcz6_0
     try clear hcz6_1
     try clear hcz6_2
     try clear hcz6_3
     try clear hcz6_4
     try clear hcz6_5
     try clear hcz6_6
     try clear hcz6_7
     try clear hcz6_8
     try clear hcz6_9
     try clear hcz8_0
     try clear hcz8_1
     try clear hcz8_2
     try clear hcz8_3
     try clear hcz8_4
     try clear hcz8_5
     try clear hcz8_6
     try clear hcz8_7
     try clear hcz8_8
     try clear hcz8_9
     try clear hfz12_0
     try clear hfz12_1
     try clear hfz12_2
     try clear hfz12_3
     try clear hfz12_4
     try clear hfz12_5
     try clear hfz12_6
     try clear hfz12_7
     try clear hfz12_8
     try clear hfz12_9
     try clear hfz6_0
     try clear hfz6_1
     try clear hfz6_2
     try clear hfz6_3
     try clear hfz6_4
     try clear hfz6_5
     try clear hfz6_6
     try clear hfz6_7
     try clear hfz6_8
     try clear hfz6_9
     try clear hfz8_0
     try clear hfz8_1
     try clear hfz8_2
     try clear hfz8_3
     try clear hfz8_4
     try clear hfz8_5
     try clear hfz8_6
     try clear hfz8_7
     try clear hfz8_8
     try clear hfz8_9
     try clear p2
     obtain ⟨x5_2, x34_2, rfl, HA, HK2, HO_5, HO_32, BK233, HB⟩ := hrel; cases gk with
     | zero => exact absurd HA.out (by simp [impl_BundleBytes.l0])
     | succ k2 =>
      have H := HA.out; clear HA; simp only [impl_BundleBytes.l0] at H; by_cases c16 : x34_2 < (y238.length : Int)
      ·rw [if_pos c16] at H; have c16b0 : decide (x34_2 < (y238.length : Int)) = true := decide_eq_true c16; clear c16; by_cases c17 : 0 ≤ x34_2
       ·rw [if_pos c17] at H; have c17b0 : decide (0 ≤ x34_2) = true := decide_eq_true c17; clear c17; by_cases c18 : x34_2 < (y238.length : Int)
        ·rw [if_pos c18] at H; have c18b0 : decide (x34_2 < (y238.length : Int)) = true := decide_eq_true c18; clear c18; by_cases c19 : x5_2.length < 3518437208883
         ·rw [if_pos c19] at H; have LMc19 := Aside0.mk c19; clear c19; obtain ⟨y242, hy242⟩ : ∃ y_ : List (S67), y_ = (x5_2 ++ [(⟨1, rd y238 x34_2, (⟨#[]⟩ : ByteArray), 0⟩ : S67)]) := ⟨_, rfl⟩
          replace H : (impl_BundleBytes.l0 k2 y242 y238 (y238.length : Int) (wrap64 (x34_2 + 1)) a0_0 a0_1 a0_2 a0_3 a0_4 a0_5 a0_6 a0_7 a0_8 a0_9) = some (r1, r2) := by first | (rw [hy242]; with_reducible exact H) | (have H2_ := (Option.bind_some _ _).symm.trans H; rw [hy242]; with_reducible exact H2_) | (have H2_ := (Option.bind_some _ _).symm.trans H; with_reducible exact H2_) | with_reducible exact H | (rw [hy242]; exact H) | exact H
          have Ny242 := Aside0.mk hy242; clear hy242; have H' := Aside0.mk H; clear H; have p241 : 0 ≤ (x34_2 : Int) := od_; have q241 : x34_2 < (y238.length : Int) := od_; obtain ⟨ad241, e241, hx241_0⟩ := Kd.at_int (Kd.R_reads' HO_32.out).2.2 x34_2 p241 q241; cases e241; replace p241 := eq_true p241; replace q241 := eq_true q241; go_wp2_with (first | ((with_reducible refine gate_builtin (b := .append) (xs := #[.tmp 38, .tmp 41]) rfl ?_); at_builtin; refine Kd.R_append k67 (w0 := w) w.heap.size rfl (.tmp 38) (.tmp 41) 68 67 (.agg #[(.int .i64 0), (.int .i64 0), (.string ⟨#[]⟩), (.int .i64 0)]) 40 rfl Try.underlying68 info67 rfl (by decide) (by omega) u5 x5_2 (⟨1, rd y238 x34_2, (⟨#[]⟩ : ByteArray), 0⟩ : S67) [.int .i64 1, .int .i64 (rd y238 x34_2), .string (⟨#[]⟩ : ByteArray), .int .i64 0] (fun _ => True) (fun _ => False) rfl rfl ?aP (fun _ hk => hk.elim) ?aF ?aO ?aB ?aS ?aL ?_; (case aP => exact k67_mkM _ _ _ (⟨1, rd y238 x34_2, (⟨#[]⟩ : ByteArray), 0⟩ : S67)); (case aB => exact (bq_ HB)); (case aF => exact (fun _ _ => trivial)); (case aO => exact (by (with_reducible repeat (first | apply Kd.R_alloc | apply Kd.R_drewN | apply Kd.R_drew)); exact HO_5.out)); (case aS => exact (below_size (bq_ HB))); (case aL => have := LMc19.out; omega); intro v243 w20 ho hb hg hat; rw [← Ny242.out] at ho; have n0_ := Aside0.mk (Kd.R_over' (by (with_reducible repeat (first | apply Kd.R_alloc | apply Kd.R_drewN | apply Kd.R_drew)); exact HO_32.out) (Kd.R_typed (by (with_reducible repeat (first | apply Kd.R_alloc | apply Kd.R_drewN | apply Kd.R_drew)); exact HO_5.out)) (by decide) hg); have n1_ := Aside0.mk (blk_grown (g := gb233) (o := .cells #[.int .i64 a0_0, .int .i64 a0_1, .bool a0_2, .int .i64 a0_3, .int .i64 a0_4, .int .i64 a0_5, .int .i64 a0_6, .int .i64 a0_7, .int .i64 a0_8, .string a0_9] 32 (0, 0)) pq_ hg (Kd.R_ne HO_5.out BK233.out (by decide))); have n2_ := Aside0.mk (hb); have n3_ := Aside0.mk (ho); clear HO_32; clear BK233; clear HB; clear HO_5; have HO_32 := n0_; have BK233 := n1_; have HB := n2_; have HO244 := n3_; clear n0_ n1_ n2_ n3_; clear ho hb hg hat)); go_roundg k2
          case measure => have := HJ3.out; have := HK2.out; omega
          case rel => exact ⟨(y242), (wrap64 (x34_2 + 1)), fs_, H', ⟨by have := HJ3.out; have := HK2.out; omega⟩, ⟨by (with_reducible repeat (first | apply Kd.R_alloc | apply Kd.R_drewN | apply Kd.R_drew)); exact HO244.out⟩, ⟨by (with_reducible repeat (first | apply Kd.R_alloc | apply Kd.R_drewN | apply Kd.R_drew)); exact HO_32.out⟩, ⟨pq_⟩, ⟨bq_ HB⟩⟩
         ·rw [if_neg c19] at H; exact no_ H
        ·rw [if_neg c18] at H; exact no_ H
       ·rw [if_neg c17] at H; exact no_ H
      ·rw [if_neg c16] at H; have c16b0 : decide (x34_2 < (y238.length : Int)) = false := decide_eq_false c16; clear c16; by_cases c21 : x5_2.length < 3518437208883
       ·rw [if_pos c21] at H; have LMc21 := Aside0.mk c21; clear c21; obtain ⟨y245, hy245⟩ : ∃ y_ : List (S67), y_ = (x5_2 ++ [(⟨2, 0, a0_9, 0⟩ : S67)]) := ⟨_, rfl⟩
        replace H : ((impl_itemsBytes.f k2 y245).bind fun t248 => ((impl_WithCrc.f k2 t248).bind fun bt249 => (some (bt249.1, bt249.2)))) = some (r1, r2) := by first | (rw [hy245]; with_reducible exact H) | (have H2_ := (Option.bind_some _ _).symm.trans H; rw [hy245]; with_reducible exact H2_) | (have H2_ := (Option.bind_some _ _).symm.trans H; with_reducible exact H2_) | with_reducible exact H | (rw [hy245]; exact H) | exact H
        have Ny245 := Aside0.mk hy245; clear hy245; replace H := Option.bind_eq_some_iff.mp H; obtain ⟨t248, A220, H⟩ := H; replace H : ((impl_WithCrc.f k2 t248).bind fun bt249 => (some (bt249.1, bt249.2))) = some (r1, r2) := H; have A22 := Aside0.mk A220; clear A220; replace H := Option.bind_eq_some_iff.mp H; obtain ⟨⟨t249, t250⟩, A230, H⟩ := H; replace H : (some (t249, t250)) = some (r1, r2) := H; have A23 := Aside0.mk A230; clear A230; simp only [Option.some.injEq, Prod.mk.injEq] at H; obtain ⟨rfl, rfl⟩ := H; obtain ⟨hcz24_0, hcz24_1, hcz24_2, hcz24_3, hcz24_4, hcz24_5, hcz24_6, hcz24_7, hcz24_8, hcz24_9, hfz24_0, hfz24_1, hfz24_2, hfz24_3, hfz24_4, hfz24_5, hfz24_6, hfz24_7, hfz24_8, hfz24_9⟩ := cf10 BK233.out; go_wp2_with (first | ((with_reducible refine gate_builtin (b := .append) (xs := #[.tmp 44, .tmp 48]) rfl ?_); at_builtin; refine Kd.R_append k67 (w0 := w) w.heap.size rfl (.tmp 44) (.tmp 48) 68 67 (.agg #[(.int .i64 0), (.int .i64 0), (.string ⟨#[]⟩), (.int .i64 0)]) 40 rfl Try.underlying68 info67 rfl (by decide) (by omega) u5 x5_2 (⟨2, 0, a0_9, 0⟩ : S67) [.int .i64 2, .int .i64 0, .string a0_9, .int .i64 0] (fun _ => True) (fun _ => False) rfl rfl ?aP (fun _ hk => hk.elim) ?aF ?aO ?aB ?aS ?aL ?_; (case aP => exact k67_mkM _ _ _ (⟨2, 0, a0_9, 0⟩ : S67)); (case aB => exact (bq_ HB)); (case aF => exact (fun _ _ => trivial)); (case aO => exact (by (with_reducible repeat (first | apply Kd.R_alloc | apply Kd.R_drewN | apply Kd.R_drew)); exact HO_5.out)); (case aS => exact (below_size (bq_ HB))); (case aL => have := LMc21.out; omega); intro v246 w25 ho hb hg hat; rw [← Ny245.out] at ho; have n0_ := Aside0.mk (Kd.R_over' (by (with_reducible repeat (first | apply Kd.R_alloc | apply Kd.R_drewN | apply Kd.R_drew)); exact HO_32.out) (Kd.R_typed (by (with_reducible repeat (first | apply Kd.R_alloc | apply Kd.R_drewN | apply Kd.R_drew)); exact HO_5.out)) (by decide) hg); have n1_ := Aside0.mk (blk_grown (g := gb233) (o := .cells #[.int .i64 a0_0, .int .i64 a0_1, .bool a0_2, .int .i64 a0_3, .int .i64 a0_4, .int .i64 a0_5, .int .i64 a0_6, .int .i64 a0_7, .int .i64 a0_8, .string a0_9] 32 (0, 0)) pq_ hg (Kd.R_ne HO_5.out BK233.out (by decide))); have n2_ := Aside0.mk (hb); have n3_ := Aside0.mk (ho); clear HO_32; clear BK233; clear HB; clear HO_5; have HO_32 := n0_; have BK233 := n1_; have HB := n2_; have HO247 := n3_; clear n0_ n1_ n2_ n3_; clear ho hb hg hat; obtain ⟨Ao26, co26, eo26⟩ := Kd.R_slice HO247.out; subst eo26) | ((with_reducible refine gate_callee (f := 43) rfl ?_); refine goesL_ (some 50) rfl rfl Try.func43 (by kernel_rfl) rfl #[.slice Ao26 y245.length co26] rfl ma_ ?_; (with_reducible refine (impl_itemsBytes.calls k2 _ _ y245 t248 _ ?side1 ?side2 A22.out).mono ?_); (case side1 => repeat (first | exact (Kd.R_reads' HO247.out).2.2 | with_reducible first | refine Kd.C_alloc ?_ _ | refine Kd.C_drewN ?_ _ | refine Kd.C_drew ?_)); (case side2 => exact (Kd.R_reads' HO247.out).2.1); rintro e w27 ⟨rfl, hb⟩; refine ⟨_, rfl, ?_⟩; have n0_ := Aside0.mk (Kd.R_below (by (with_reducible repeat (first | apply Kd.R_alloc | apply Kd.R_drewN | apply Kd.R_drew)); exact HO_32.out) hb); have n1_ := Aside0.mk (Kd.R_below (by (with_reducible repeat (first | apply Kd.R_alloc | apply Kd.R_drewN | apply Kd.R_drew)); exact HO247.out) hb); have n2_ := Aside0.mk (blk_below (g := gb233) (o := .cells #[.int .i64 a0_0, .int .i64 a0_1, .bool a0_2, .int .i64 a0_3, .int .i64 a0_4, .int .i64 a0_5, .int .i64 a0_6, .int .i64 a0_7, .int .i64 a0_8, .string a0_9] 32 (0, 0)) pq_ hb); have n3_ := Aside0.mk (below_step (bq_ HB) hb); clear HO_32; clear HO247; clear BK233; clear HB; have HO_32 := n0_; have HO247 := n1_; have BK233 := n2_; have HB := n3_; clear n0_ n1_ n2_ n3_; (try clear hb); (try clear hb2); (try clear hk); (try clear hi)) | ((with_reducible refine gate_callee (f := 7) rfl ?_); refine goesL_ (some 51) rfl rfl Try.func7 (by kernel_rfl) rfl #[.string t248] rfl ma_ ?_; (with_reducible refine (impl_WithCrc.calls k2 t248 t249 t250 _ A23.out).mono ?_); rintro e w28 ⟨rfl, hb⟩; refine ⟨_, rfl, ?_⟩; have n0_ := Aside0.mk (Kd.R_below (by (with_reducible repeat (first | apply Kd.R_alloc | apply Kd.R_drewN | apply Kd.R_drew)); exact HO_32.out) hb); have n1_ := Aside0.mk (Kd.R_below (by (with_reducible repeat (first | apply Kd.R_alloc | apply Kd.R_drewN | apply Kd.R_drew)); exact HO247.out) hb); have n2_ := Aside0.mk (blk_below (g := gb233) (o := .cells #[.int .i64 a0_0, .int .i64 a0_1, .bool a0_2, .int .i64 a0_3, .int .i64 a0_4, .int .i64 a0_5, .int .i64 a0_6, .int .i64 a0_7, .int .i64 a0_8, .string a0_9] 32 (0, 0)) pq_ hb); have n3_ := Aside0.mk (below_step (bq_ HB) hb); clear HO_32; clear HO247; clear BK233; clear HB; have HO_32 := n0_; have HO247 := n1_; have BK233 := n2_; have HB := n3_; clear n0_ n1_ n2_ n3_; (try clear hb); (try clear hb2); (try clear hk); (try clear hi))); go_ret2; exact ⟨er_, bq_ HB⟩
       ·rw [if_neg c21] at H; exact no_ H
 ·replace c3 := Bool.eq_false_iff.mpr c3; subst c3; have H1 : (some ((⟨#[]⟩ : ByteArray), false)) = some (r1, r2) := by rw [if_neg (show ¬ (false = true) by decide)] at H; exact H
  clear H; have H := H1; clear H1; simp only [Option.some.injEq, Prod.mk.injEq] at H; obtain ⟨rfl, rfl⟩ := H
  go_enter Try.func17, Try.ntmps17
  go_wp2_with (first | ((with_reducible refine gate_dst (N := 1) rfl ?_); refine be_ 1 32 #[.int .i64 a0_0, .int .i64 a0_1, .bool a0_2, .int .i64 a0_3, .int .i64 a0_4, .int .i64 a0_5, .int .i64 a0_6, .int .i64 a0_7, .int .i64 a0_8, .string a0_9] ?_; intro gb233 hg w29 hbox hb; have n0_ := Aside0.mk (bs_ hb); have n1_ := Aside0.mk (hbox); have n2_ := Aside0.mk ((by rw [hg]; exact bz_ : w.heap.size ≤ gb233)); have n3_ := Aside0.mk ((by rw [hg]; exact bz_ : w.heap.size ≤ gb233)); clear HB; have HB := n0_; have BK233 := n1_; have GW233 := n2_; have GE233 := n3_; clear n0_ n1_ n2_ n3_; clear hb hbox hg; obtain ⟨hcz30_0, hcz30_1, hcz30_2, hcz30_3, hcz30_4, hcz30_5, hcz30_6, hcz30_7, hcz30_8, hcz30_9, hfz30_0, hfz30_1, hfz30_2, hfz30_3, hfz30_4, hfz30_5, hfz30_6, hfz30_7, hfz30_8, hfz30_9⟩ := cf10 BK233.out) | ((with_reducible refine gate_callee (f := 19) rfl ?_); refine goesL_ (some 9) rfl rfl Try.func19 (by kernel_rfl) rfl #[.agg #[.int .i64 a0_0, .int .i64 a0_1, .bool a0_2, .int .i64 a0_3, .int .i64 a0_4, .int .i64 a0_5, .int .i64 a0_6, .int .i64 a0_7, .int .i64 a0_8, .string a0_9]] rfl ma_ ?_; (with_reducible refine (impl_GoodBundle.calls k a0_0 a0_1 a0_2 a0_3 a0_4 a0_5 a0_6 a0_7 a0_8 a0_9 false _ A2.out).mono ?_); rintro e w31 ⟨rfl, hb⟩; refine ⟨_, rfl, ?_⟩; have n0_ := Aside0.mk (blk_below (g := gb233) (o := .cells #[.int .i64 a0_0, .int .i64 a0_1, .bool a0_2, .int .i64 a0_3, .int .i64 a0_4, .int .i64 a0_5, .int .i64 a0_6, .int .i64 a0_7, .int .i64 a0_8, .string a0_9] 32 (0, 0)) pq_ hb); have n1_ := Aside0.mk (below_step (bq_ HB) hb); clear BK233; clear HB; have BK233 := n0_; have HB := n1_; clear n0_ n1_; (try clear hb); (try clear hb2); (try clear hk); (try clear hi))); go_ret2; exact ⟨er_, bq_ HB⟩
def spec_l1In.f (a0 : Int) (a1 : Int) (a2 : Int) : Option (Bool) := if a0 ≥ a1 then (some (decide (a0 ≤ a2))) else (some false)
set_option maxHeartbeats 8000000 in
set_option maxRecDepth 100000 in
theorem spec_l1In.calls (a0 : Int) (a1 : Int) (a2 : Int) (r : Bool) (w : World) (h : spec_l1In.f a0 a1 a2 = some r) :
  Calls Try.prog 41 #[.int .i64 a0, .int .i64 a1, .int .i64 a2] w fun e w' => e = .returned (.bool r) ∧ Drawn0 w w' := by
 have H : (if a0 ≥ a1 then (some (decide (a0 ≤ a2))) else (some false)) = some r := h; clear h; by_cases c4 : a0 ≥ a1
 ·rw [if_pos c4] at H; have c4b0 : decide (a1 ≤ a0) = true := decide_eq_true c4; clear c4; obtain rfl := Option.some.inj H
  go_enter Try.func41, Try.ntmps41
  go_wp2; go_ret; exact ⟨by first | rfl | (simp; done) | (simp [*]; done), by repeat (first | exact Drawn0.refl _ | apply Drawn0.step)⟩
 ·rw [if_neg c4] at H; have c4b0 : decide (a1 ≤ a0) = false := decide_eq_false c4; clear c4; obtain rfl := Option.some.inj H
  go_enter Try.func41, Try.ntmps41
  go_wp2; go_ret; exact ⟨by first | rfl | (simp; done) | (simp [*]; done), by repeat (first | exact Drawn0.refl _ | apply Drawn0.step)⟩
end Go.Proofs.Ytaffjcaohbkmoaa.QFnBundles
