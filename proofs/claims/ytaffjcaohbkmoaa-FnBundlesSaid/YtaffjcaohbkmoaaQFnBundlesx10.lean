import Derived.Test.YtaffjcaohbkmoaaQFnBundlesx0
import Derived.Test.YtaffjcaohbkmoaaQFnBundlesx3
import Derived.Test.YtaffjcaohbkmoaaQFnBundlesx5
import Derived.Test.YtaffjcaohbkmoaaQFnBundlesx8
import Derived.Test.YtaffjcaohbkmoaaSq
namespace Go.Proofs.Ytaffjcaohbkmoaa.QFnBundles
open Go.RowKit Go.Proofs.YtaffjcaohbkmoaaW.PrintWords Go.Proofs.YtaffjcaohbkmoaaW.PrintLast Go.Proofs.YtaffjcaohbkmoaaW.PrintMore
attribute [local go_sem] max2_int min2_int max_two min_two max_three min_three max_four min_four   -- for this text's walks alone
set_option linter.unusedVariables false
set_option linter.unusedSimpArgs false
def impl_itemOK.l0 : Nat → Int → Int → Int → Int → ByteArray → Int → Option (Bool)
 | 0, _, _, _, _, _, _ => none
 | k + 1, x26, x27, x313000, x313001, x313002, x313003 => if x27 < x26 then (if 0 ≤ x27 then (if x27 < (x313002.size : Int) then ((impl_within.f (wrap64 (bt x313002 x27)) 32 126).bind fun t314 => (if t314 = true then (impl_itemOK.l0 k x26 (wrap64 (x27 + 1)) x313000 x313001 x313002 x313003) else (some false))) else (none)) else (none)) else (if (x313002.size : Int) ≤ 60 then (if x313001 = 0 then (some (x313003 == 0)) else (some false)) else (some false))
def impl_itemOK.f (k : Nat) (a0_0 : Int) (a0_1 : Int) (a0_2 : ByteArray) (a0_3 : Int) : Option (Bool) := if a0_0 = 1 then ((impl_isValue.f a0_1).bind fun t313 => (if t313 = true then (if a0_2.toList = ([] : List UInt8) then (some (a0_3 == 0)) else (some false)) else (some false))) else (if a0_0 = 3 then (impl_itemOK.l0 k (mn (a0_2.size : Int) 61) 0 a0_0 a0_1 a0_2 a0_3) else (if a0_0 = 2 then (if (a0_2.size : Int) ≤ 60 then (if a0_1 = 0 then (some (a0_3 == 0)) else (some false)) else (some false)) else (if a0_0 = 4 then ((impl_within.f a0_3 0 40).bind fun t315 => (if t315 = true then (if a0_1 = 0 then (some a0_2.toList.isEmpty) else (some false)) else (some false))) else (some false))))
theorem impl_itemOK.mono_l : ∀ k, (∀ y0 y1 y2 y3 y4 y5, LeO (impl_itemOK.l0 k y0 y1 y2 y3 y4 y5) (impl_itemOK.l0 (k + 1) y0 y1 y2 y3 y4 y5))
 | 0 => fun _ _ _ _ _ _ r h => by simp [impl_itemOK.l0] at h
 | k + 1 => by
  have ih0 := impl_itemOK.mono_l k
  ·intro y0 y1 y2 y3 y4 y5; unfold impl_itemOK.l0
   repeat' first
   | (with_reducible exact ih0 _ _ _ _ _ _)
   | (with_reducible exact LeO.refl _)
   | (with_reducible exact LeO.none _)
   | (with_reducible refine LeO.ite ?_ ?_)
   | (with_reducible refine LeO.bind ?_ (fun _ => ?_))
   | exact ih0 _ _ _ _ _ _
   | exact LeO.none _
   | refine LeO.ite ?_ ?_
   | refine LeO.bind ?_ (fun _ => ?_)
theorem impl_itemOK.mono : ∀ a0 a1 a2 a3 k, LeO (impl_itemOK.f k a0 a1 a2 a3) (impl_itemOK.f (k + 1) a0 a1 a2 a3) := by
 intro a0 a1 a2 a3 k; have ih0 := impl_itemOK.mono_l k; unfold impl_itemOK.f
 repeat' first
   | (with_reducible exact ih0 _ _ _ _ _ _)
   | (with_reducible exact LeO.refl _)
   | (with_reducible exact LeO.none _)
   | (with_reducible refine LeO.ite ?_ ?_)
   | (with_reducible refine LeO.bind ?_ (fun _ => ?_))
   | exact ih0 _ _ _ _ _ _
   | exact LeO.none _
   | refine LeO.ite ?_ ?_
   | refine LeO.bind ?_ (fun _ => ?_)
set_option maxHeartbeats 8000000 in
set_option maxRecDepth 100000 in
theorem impl_itemOK.calls (k : Nat) (a0_0 : Int) (a0_1 : Int) (a0_2 : ByteArray) (a0_3 : Int) (r : Bool) (w : World) (h : impl_itemOK.f k a0_0 a0_1 a0_2 a0_3 = some r) :
  Calls Try.prog 96 #[.agg #[.int .i64 a0_0, .int .i64 a0_1, .string a0_2, .int .i64 a0_3]] w fun e w' => e = .returned (.bool r) ∧ Below w.heap.size w w' := by
 have hu67 := Try.underlying67; have HB := Aside0.mk (Below.refl w.heap.size w); have H : (if a0_0 = 1 then ((impl_isValue.f a0_1).bind fun t313 => (if t313 = true then (if a0_2.toList = ([] : List UInt8) then (some (a0_3 == 0)) else (some false)) else (some false))) else (if a0_0 = 3 then (impl_itemOK.l0 k (mn (a0_2.size : Int) 61) 0 a0_0 a0_1 a0_2 a0_3) else (if a0_0 = 2 then (if (a0_2.size : Int) ≤ 60 then (if a0_1 = 0 then (some (a0_3 == 0)) else (some false)) else (some false)) else (if a0_0 = 4 then ((impl_within.f a0_3 0 40).bind fun t315 => (if t315 = true then (if a0_1 = 0 then (some a0_2.toList.isEmpty) else (some false)) else (some false))) else (some false))))) = some r := h; clear h; by_cases c2 : a0_0 = 1
 ·rw [if_pos c2] at H; have c2b0 : (a0_0 == 1) = true := beq_iff_eq.mpr c2; have c2b1 : (a0_0 != 1) = false := bne_eq_false_iff_eq.mpr c2; clear c2; replace H := Option.bind_eq_some_iff.mp H; obtain ⟨t313, A30, H⟩ := H; replace H : (if t313 = true then (if a0_2.toList = ([] : List UInt8) then (some (a0_3 == 0)) else (some false)) else (some false)) = some r := H; have A3 := Aside0.mk A30; clear A30; by_cases c4 : t313 = true
  ·subst c4; have H1 : (if a0_2.toList = ([] : List UInt8) then (some (a0_3 == 0)) else (some false)) = some r := by rw [if_pos rfl] at H; exact H
   clear H; have H := H1; clear H1; by_cases c5 : a0_2.toList = ([] : List UInt8)
   ·rw [if_pos c5] at H; have c5b0 : (a0_2.toList == ([] : List UInt8)) = true := beq_iff_eq.mpr c5; have c5b1 : (a0_2.toList != ([] : List UInt8)) = false := bne_eq_false_iff_eq.mpr c5; clear c5; obtain rfl := Option.some.inj H
    go_enter Try.func96, Try.ntmps96
    go_wp2_with (first | ((with_reducible refine gate_dst (N := 1) rfl ?_); refine be_ 1 67 #[.int .i64 a0_0, .int .i64 a0_1, .string a0_2, .int .i64 a0_3] ?_; intro gb312 hg w6 hbox hb; have n0_ := Aside0.mk (bs_ hb); have n1_ := Aside0.mk (hbox); have n2_ := Aside0.mk ((by rw [hg]; exact bz_ : w.heap.size ≤ gb312)); have n3_ := Aside0.mk ((by rw [hg]; exact bz_ : w.heap.size ≤ gb312)); clear HB; have HB := n0_; have BK312 := n1_; have GW312 := n2_; have GE312 := n3_; clear n0_ n1_ n2_ n3_; clear hb hbox hg; obtain ⟨hcz7_0, hcz7_1, hcz7_2, hcz7_3, hfz7_0, hfz7_1, hfz7_2, hfz7_3⟩ := cf4 BK312.out) | ((with_reducible refine gate_callee (f := 89) rfl ?_); refine goesL_ (some 10) rfl rfl Try.func89 (by kernel_rfl) rfl #[.int .i64 a0_1] rfl ma_ ?_; (with_reducible refine (impl_isValue.calls a0_1 true _ A3.out).mono ?_); rintro e w' ⟨rfl, ⟨nd, rfl⟩⟩; refine ⟨_, rfl, ?_⟩)); go_ret; exact ⟨er_, bq_ HB⟩
   ·rw [if_neg c5] at H; have c5b0 : (a0_2.toList == ([] : List UInt8)) = false := beq_eq_false_iff_ne.mpr c5; have c5b1 : (a0_2.toList != ([] : List UInt8)) = true := bne_iff_ne.mpr c5; obtain rfl := Option.some.inj H
    go_enter Try.func96, Try.ntmps96
    go_wp2_with (first | ((with_reducible refine gate_dst (N := 1) rfl ?_); refine be_ 1 67 #[.int .i64 a0_0, .int .i64 a0_1, .string a0_2, .int .i64 a0_3] ?_; intro gb312 hg w8 hbox hb; have n0_ := Aside0.mk (bs_ hb); have n1_ := Aside0.mk (hbox); have n2_ := Aside0.mk ((by rw [hg]; exact bz_ : w.heap.size ≤ gb312)); have n3_ := Aside0.mk ((by rw [hg]; exact bz_ : w.heap.size ≤ gb312)); clear HB; have HB := n0_; have BK312 := n1_; have GW312 := n2_; have GE312 := n3_; clear n0_ n1_ n2_ n3_; clear hb hbox hg; obtain ⟨hcz9_0, hcz9_1, hcz9_2, hcz9_3, hfz9_0, hfz9_1, hfz9_2, hfz9_3⟩ := cf4 BK312.out) | ((with_reducible refine gate_callee (f := 89) rfl ?_); refine goesL_ (some 10) rfl rfl Try.func89 (by kernel_rfl) rfl #[.int .i64 a0_1] rfl ma_ ?_; (with_reducible refine (impl_isValue.calls a0_1 true _ A3.out).mono ?_); rintro e w' ⟨rfl, ⟨nd, rfl⟩⟩; refine ⟨_, rfl, ?_⟩)); go_ret; exact ⟨er_, bq_ HB⟩
  ·replace c4 := Bool.eq_false_iff.mpr c4; subst c4; have H1 : (some false) = some r := by rw [if_neg (show ¬ (false = true) by decide)] at H; exact H
   clear H; have H := H1; clear H1; obtain rfl := Option.some.inj H
   go_enter Try.func96, Try.ntmps96
   go_wp2_with (first | ((with_reducible refine gate_dst (N := 1) rfl ?_); refine be_ 1 67 #[.int .i64 a0_0, .int .i64 a0_1, .string a0_2, .int .i64 a0_3] ?_; intro gb312 hg w10 hbox hb; have n0_ := Aside0.mk (bs_ hb); have n1_ := Aside0.mk (hbox); have n2_ := Aside0.mk ((by rw [hg]; exact bz_ : w.heap.size ≤ gb312)); have n3_ := Aside0.mk ((by rw [hg]; exact bz_ : w.heap.size ≤ gb312)); clear HB; have HB := n0_; have BK312 := n1_; have GW312 := n2_; have GE312 := n3_; clear n0_ n1_ n2_ n3_; clear hb hbox hg; obtain ⟨hcz11_0, hcz11_1, hcz11_2, hcz11_3, hfz11_0, hfz11_1, hfz11_2, hfz11_3⟩ := cf4 BK312.out) | ((with_reducible refine gate_callee (f := 89) rfl ?_); refine goesL_ (some 10) rfl rfl Try.func89 (by kernel_rfl) rfl #[.int .i64 a0_1] rfl ma_ ?_; (with_reducible refine (impl_isValue.calls a0_1 false _ A3.out).mono ?_); rintro e w' ⟨rfl, ⟨nd, rfl⟩⟩; refine ⟨_, rfl, ?_⟩)); go_ret; exact ⟨er_, bq_ HB⟩
 ·rw [if_neg c2] at H; have c2b0 : (a0_0 == 1) = false := beq_eq_false_iff_ne.mpr c2; have c2b1 : (a0_0 != 1) = true := bne_iff_ne.mpr c2; by_cases c12 : a0_0 = 3
  ·rw [if_pos c12] at H; have c12b0 : (a0_0 == 3) = true := beq_iff_eq.mpr c12; have c12b1 : (a0_0 != 3) = false := bne_eq_false_iff_eq.mpr c12; clear c12; obtain ⟨ji13, hji13⟩ : ∃ j_ : Int, (mn (a0_2.size : Int) 61) = j_ := ⟨_, rfl⟩
   replace H : (impl_itemOK.l0 k ji13 0 a0_0 a0_1 a0_2 a0_3) = some r := by first | (rw [hji13] at H; exact H) | (simp only [hji13] at H ⊢; exact H)
   (try (have hji13h : ji13 ≤ 61 := by (rw [← hji13]; unfold mn; (repeat' split) <;> omega))); (try (have hji13g : ji13 ≤ 64 := by omega)); (try (have hji13l : 0 ≤ ji13 := by (rw [← hji13]; unfold mn; (repeat' split) <;> omega))); (try (have hji13m : 0 ≤ ji13 := by omega)); have hji13_ : (if 61 < (a0_2.size : Int) then 61 else (a0_2.size : Int)) = ji13 := hji13; have H' := Aside0.mk H; clear H
   go_enter Try.func96, Try.ntmps96
   go_wp2_with (first | ((with_reducible refine gate_dst (N := 1) rfl ?_); refine be_ 1 67 #[.int .i64 a0_0, .int .i64 a0_1, .string a0_2, .int .i64 a0_3] ?_; intro gb312 hg w14 hbox hb; have n0_ := Aside0.mk (bs_ hb); have n1_ := Aside0.mk (hbox); have n2_ := Aside0.mk ((by rw [hg]; exact bz_ : w.heap.size ≤ gb312)); have n3_ := Aside0.mk ((by rw [hg]; exact bz_ : w.heap.size ≤ gb312)); clear HB; have HB := n0_; have BK312 := n1_; have GW312 := n2_; have GE312 := n3_; clear n0_ n1_ n2_ n3_; clear hb hbox hg; obtain ⟨hcz15_0, hcz15_1, hcz15_2, hcz15_3, hfz15_0, hfz15_1, hfz15_2, hfz15_3⟩ := cf4 BK312.out))
   go_loopg [27] k (fun kq v27 w' => ∃ (x27_1 : Int), v27 = .int .i64 x27_1 ∧ Aside0 (impl_itemOK.l0 kq ji13 x27_1 a0_0 a0_1 a0_2 a0_3 = some r) ∧ Aside0 (kq ≤ k) ∧ Aside0 (w'.heap[gb312]? = some (.cells #[.int .i64 a0_0, .int .i64 a0_1, .string a0_2, .int .i64 a0_3] 67 (0, 0))) ∧ Aside0 (Below w.heap.size w w'))
   case atStart => exact ⟨(0), fs_, H', ⟨Nat.le_refl _⟩, ⟨pq_⟩, ⟨bq_ HB⟩⟩
   case round =>
    clear H'; try clear c1
    try clear c2
    try clear c2b0
    try clear c2b1
    try clear p2
    try clear c4
    try clear c5
    try clear c5b0
    try clear c5b1
    try clear c8
    try clear c9
    try clear c12
    try clear c12b0
    try clear c12b1
    try clear hcz11_0
    try clear hcz11_1
    try clear hcz11_2
    try clear hcz11_3
    try clear hcz15_0
    try clear hcz15_1
    try clear hcz15_2
    try clear hcz15_3
    try clear hcz7_0
    try clear hcz7_1
    try clear hcz7_2
    try clear hcz7_3
    try clear hcz9_0
    try clear hcz9_1
    try clear hcz9_2
    try clear hcz9_3
    try clear hfz11_0
    try clear hfz11_1
    try clear hfz11_2
    try clear hfz11_3
    try clear hfz15_0
    try clear hfz15_1
    try clear hfz15_2
    try clear hfz15_3
    try clear hfz7_0
    try clear hfz7_1
    try clear hfz7_2
    try clear hfz7_3
    try clear hfz9_0
    try clear hfz9_1
    try clear hfz9_2
    try clear hfz9_3
    obtain ⟨x27_1, rfl, HA, HK1, BK312, HB⟩ := hrel; cases gk with
    | zero => exact absurd HA.out (by simp [impl_itemOK.l0])
    | succ k1 =>
     have H := HA.out; clear HA; simp only [impl_itemOK.l0] at H; by_cases c16 : x27_1 < ji13
     ·rw [if_pos c16] at H; have c16b0 : decide (x27_1 < ji13) = true := decide_eq_true c16; clear c16; by_cases c17 : 0 ≤ x27_1
      ·rw [if_pos c17] at H; have c17b0 : decide (0 ≤ x27_1) = true := decide_eq_true c17; clear c17; by_cases c18 : x27_1 < (a0_2.size : Int)
       ·rw [if_pos c18] at H; have c18b0 : decide (x27_1 < (a0_2.size : Int)) = true := decide_eq_true c18; clear c18; replace H := Option.bind_eq_some_iff.mp H; obtain ⟨t314, A200, H⟩ := H; replace H : (if t314 = true then (impl_itemOK.l0 k1 ji13 (wrap64 (x27_1 + 1)) a0_0 a0_1 a0_2 a0_3) else (some false)) = some r := H; have A20 := Aside0.mk A200; clear A200; by_cases c21 : t314 = true
        ·subst c21; have H1 : (impl_itemOK.l0 k1 ji13 (wrap64 (x27_1 + 1)) a0_0 a0_1 a0_2 a0_3) = some r := by rw [if_pos rfl] at H; exact H
         clear H; have H := H1; clear H1; have H' := Aside0.mk H; clear H; obtain ⟨hcz22_0, hcz22_1, hcz22_2, hcz22_3, hfz22_0, hfz22_1, hfz22_2, hfz22_3⟩ := cf4 BK312.out; have p19 : 0 ≤ (x27_1 : Int) := od_; have q19 : x27_1 < (a0_2.size : Int) := od_; have hx19 := bt_at a0_2 x27_1; replace p19 := eq_true p19; replace q19 := eq_true q19; go_wp2_with (first | ((with_reducible refine gate_callee (f := 36) rfl ?_); refine goesL_ (some 35) rfl rfl Try.func36 (by kernel_rfl) rfl #[.int .i64 (wrap64 (bt a0_2 x27_1)), .int .i64 32, .int .i64 126] rfl ma_ ?_; (with_reducible refine (impl_within.calls (wrap64 (bt a0_2 x27_1)) 32 126 true _ A20.out).mono ?_); rintro e w' ⟨rfl, ⟨nd, rfl⟩⟩; refine ⟨_, rfl, ?_⟩)); go_roundg k1
         case measure => have := HK1.out; omega
         case rel => exact ⟨(wrap64 (x27_1 + 1)), fs_, H', ⟨by have := HK1.out; omega⟩, ⟨pq_⟩, ⟨bq_ HB⟩⟩
        ·replace c21 := Bool.eq_false_iff.mpr c21; subst c21; have H1 : (some false) = some r := by rw [if_neg (show ¬ (false = true) by decide)] at H; exact H
         clear H; have H := H1; clear H1; obtain rfl := Option.some.inj H; obtain ⟨hcz23_0, hcz23_1, hcz23_2, hcz23_3, hfz23_0, hfz23_1, hfz23_2, hfz23_3⟩ := cf4 BK312.out; have p19 : 0 ≤ (x27_1 : Int) := od_; have q19 : x27_1 < (a0_2.size : Int) := od_; have hx19 := bt_at a0_2 x27_1; replace p19 := eq_true p19; replace q19 := eq_true q19; go_wp2_with (first | ((with_reducible refine gate_callee (f := 36) rfl ?_); refine goesL_ (some 35) rfl rfl Try.func36 (by kernel_rfl) rfl #[.int .i64 (wrap64 (bt a0_2 x27_1)), .int .i64 32, .int .i64 126] rfl ma_ ?_; (with_reducible refine (impl_within.calls (wrap64 (bt a0_2 x27_1)) 32 126 false _ A20.out).mono ?_); rintro e w' ⟨rfl, ⟨nd, rfl⟩⟩; refine ⟨_, rfl, ?_⟩)); go_ret; exact ⟨by first | rfl | (simp [errW_none, errW_some] <;> rfl) | (simp only [← hji13]; first | rfl | (simp [errW_none, errW_some] <;> rfl)) | (simp [*, errW_none, errW_some] <;> rfl), bq_ HB⟩
       ·rw [if_neg c18] at H; exact no_ H
      ·rw [if_neg c17] at H; exact no_ H
     ·rw [if_neg c16] at H; have c16b0 : decide (x27_1 < ji13) = false := decide_eq_false c16; clear c16; by_cases c24 : (a0_2.size : Int) ≤ 60
      ·rw [if_pos c24] at H; have c24b0 : decide ((a0_2.size : Int) ≤ 60) = true := decide_eq_true c24; have c24b1 : decide (a0_2.size ≤ 60) = true := decide_eq_true (by omega); clear c24; by_cases c25 : a0_1 = 0
       ·rw [if_pos c25] at H; have c25b0 : (a0_1 == 0) = true := beq_iff_eq.mpr c25; have c25b1 : (a0_1 != 0) = false := bne_eq_false_iff_eq.mpr c25; clear c25; obtain rfl := Option.some.inj H; obtain ⟨hcz26_0, hcz26_1, hcz26_2, hcz26_3, hfz26_0, hfz26_1, hfz26_2, hfz26_3⟩ := cf4 BK312.out; go_wp2; go_ret; exact ⟨by first | rfl | (simp [errW_none, errW_some] <;> rfl) | (simp only [← hji13]; first | rfl | (simp [errW_none, errW_some] <;> rfl)) | (simp [*, errW_none, errW_some] <;> rfl), bq_ HB⟩
       ·rw [if_neg c25] at H; have c25b0 : (a0_1 == 0) = false := beq_eq_false_iff_ne.mpr c25; have c25b1 : (a0_1 != 0) = true := bne_iff_ne.mpr c25; obtain rfl := Option.some.inj H; obtain ⟨hcz27_0, hcz27_1, hcz27_2, hcz27_3, hfz27_0, hfz27_1, hfz27_2, hfz27_3⟩ := cf4 BK312.out; go_wp2; go_ret; exact ⟨by first | rfl | (simp [errW_none, errW_some] <;> rfl) | (simp only [← hji13]; first | rfl | (simp [errW_none, errW_some] <;> rfl)) | (simp [*, errW_none, errW_some] <;> rfl), bq_ HB⟩
      ·rw [if_neg c24] at H; have c24b0 : decide ((a0_2.size : Int) ≤ 60) = false := decide_eq_false c24; have c24b1 : decide (a0_2.size ≤ 60) = false := decide_eq_false (by omega); clear c24; obtain rfl := Option.some.inj H; obtain ⟨hcz28_0, hcz28_1, hcz28_2, hcz28_3, hfz28_0, hfz28_1, hfz28_2, hfz28_3⟩ := cf4 BK312.out; go_wp2; go_ret; exact ⟨by first | rfl | (simp [errW_none, errW_some] <;> rfl) | (simp only [← hji13]; first | rfl | (simp [errW_none, errW_some] <;> rfl)) | (simp [*, errW_none, errW_some] <;> rfl), bq_ HB⟩
  ·rw [if_neg c12] at H; have c12b0 : (a0_0 == 3) = false := beq_eq_false_iff_ne.mpr c12; have c12b1 : (a0_0 != 3) = true := bne_iff_ne.mpr c12; by_cases c29 : a0_0 = 2
   ·rw [if_pos c29] at H; have c29b0 : (a0_0 == 2) = true := beq_iff_eq.mpr c29; have c29b1 : (a0_0 != 2) = false := bne_eq_false_iff_eq.mpr c29; clear c29; by_cases c30 : (a0_2.size : Int) ≤ 60
    ·rw [if_pos c30] at H; have c30b0 : decide ((a0_2.size : Int) ≤ 60) = true := decide_eq_true c30; have c30b1 : decide (a0_2.size ≤ 60) = true := decide_eq_true (by omega); clear c30; by_cases c31 : a0_1 = 0
     ·rw [if_pos c31] at H; have c31b0 : (a0_1 == 0) = true := beq_iff_eq.mpr c31; have c31b1 : (a0_1 != 0) = false := bne_eq_false_iff_eq.mpr c31; clear c31; obtain rfl := Option.some.inj H
      go_enter Try.func96, Try.ntmps96
      go_wp2_with (first | ((with_reducible refine gate_dst (N := 1) rfl ?_); refine be_ 1 67 #[.int .i64 a0_0, .int .i64 a0_1, .string a0_2, .int .i64 a0_3] ?_; intro gb312 hg w32 hbox hb; have n0_ := Aside0.mk (bs_ hb); have n1_ := Aside0.mk (hbox); have n2_ := Aside0.mk ((by rw [hg]; exact bz_ : w.heap.size ≤ gb312)); have n3_ := Aside0.mk ((by rw [hg]; exact bz_ : w.heap.size ≤ gb312)); clear HB; have HB := n0_; have BK312 := n1_; have GW312 := n2_; have GE312 := n3_; clear n0_ n1_ n2_ n3_; clear hb hbox hg; obtain ⟨hcz33_0, hcz33_1, hcz33_2, hcz33_3, hfz33_0, hfz33_1, hfz33_2, hfz33_3⟩ := cf4 BK312.out)); go_ret; exact ⟨er_, bq_ HB⟩
     ·rw [if_neg c31] at H; have c31b0 : (a0_1 == 0) = false := beq_eq_false_iff_ne.mpr c31; have c31b1 : (a0_1 != 0) = true := bne_iff_ne.mpr c31; obtain rfl := Option.some.inj H
      go_enter Try.func96, Try.ntmps96
      go_wp2_with (first | ((with_reducible refine gate_dst (N := 1) rfl ?_); refine be_ 1 67 #[.int .i64 a0_0, .int .i64 a0_1, .string a0_2, .int .i64 a0_3] ?_; intro gb312 hg w34 hbox hb; have n0_ := Aside0.mk (bs_ hb); have n1_ := Aside0.mk (hbox); have n2_ := Aside0.mk ((by rw [hg]; exact bz_ : w.heap.size ≤ gb312)); have n3_ := Aside0.mk ((by rw [hg]; exact bz_ : w.heap.size ≤ gb312)); clear HB; have HB := n0_; have BK312 := n1_; have GW312 := n2_; have GE312 := n3_; clear n0_ n1_ n2_ n3_; clear hb hbox hg; obtain ⟨hcz35_0, hcz35_1, hcz35_2, hcz35_3, hfz35_0, hfz35_1, hfz35_2, hfz35_3⟩ := cf4 BK312.out)); go_ret; exact ⟨er_, bq_ HB⟩
    ·rw [if_neg c30] at H; have c30b0 : decide ((a0_2.size : Int) ≤ 60) = false := decide_eq_false c30; have c30b1 : decide (a0_2.size ≤ 60) = false := decide_eq_false (by omega); clear c30; obtain rfl := Option.some.inj H
     go_enter Try.func96, Try.ntmps96
     go_wp2_with (first | ((with_reducible refine gate_dst (N := 1) rfl ?_); refine be_ 1 67 #[.int .i64 a0_0, .int .i64 a0_1, .string a0_2, .int .i64 a0_3] ?_; intro gb312 hg w36 hbox hb; have n0_ := Aside0.mk (bs_ hb); have n1_ := Aside0.mk (hbox); have n2_ := Aside0.mk ((by rw [hg]; exact bz_ : w.heap.size ≤ gb312)); have n3_ := Aside0.mk ((by rw [hg]; exact bz_ : w.heap.size ≤ gb312)); clear HB; have HB := n0_; have BK312 := n1_; have GW312 := n2_; have GE312 := n3_; clear n0_ n1_ n2_ n3_; clear hb hbox hg; obtain ⟨hcz37_0, hcz37_1, hcz37_2, hcz37_3, hfz37_0, hfz37_1, hfz37_2, hfz37_3⟩ := cf4 BK312.out)); go_ret; exact ⟨er_, bq_ HB⟩
   ·rw [if_neg c29] at H; have c29b0 : (a0_0 == 2) = false := beq_eq_false_iff_ne.mpr c29; have c29b1 : (a0_0 != 2) = true := bne_iff_ne.mpr c29; by_cases c38 : a0_0 = 4
    ·rw [if_pos c38] at H; have c38b0 : (a0_0 == 4) = true := beq_iff_eq.mpr c38; have c38b1 : (a0_0 != 4) = false := bne_eq_false_iff_eq.mpr c38; clear c38; replace H := Option.bind_eq_some_iff.mp H; obtain ⟨t315, A390, H⟩ := H; replace H : (if t315 = true then (if a0_1 = 0 then (some a0_2.toList.isEmpty) else (some false)) else (some false)) = some r := H; have A39 := Aside0.mk A390; clear A390; by_cases c40 : t315 = true
     ·subst c40; have H1 : (if a0_1 = 0 then (some a0_2.toList.isEmpty) else (some false)) = some r := by rw [if_pos rfl] at H; exact H
      clear H; have H := H1; clear H1; by_cases c41 : a0_1 = 0
      ·rw [if_pos c41] at H; have c41b0 : (a0_1 == 0) = true := beq_iff_eq.mpr c41; have c41b1 : (a0_1 != 0) = false := bne_eq_false_iff_eq.mpr c41; clear c41; obtain rfl := Option.some.inj H
       go_enter Try.func96, Try.ntmps96
       go_wp2_with (first | ((with_reducible refine gate_dst (N := 1) rfl ?_); refine be_ 1 67 #[.int .i64 a0_0, .int .i64 a0_1, .string a0_2, .int .i64 a0_3] ?_; intro gb312 hg w42 hbox hb; have n0_ := Aside0.mk (bs_ hb); have n1_ := Aside0.mk (hbox); have n2_ := Aside0.mk ((by rw [hg]; exact bz_ : w.heap.size ≤ gb312)); have n3_ := Aside0.mk ((by rw [hg]; exact bz_ : w.heap.size ≤ gb312)); clear HB; have HB := n0_; have BK312 := n1_; have GW312 := n2_; have GE312 := n3_; clear n0_ n1_ n2_ n3_; clear hb hbox hg; obtain ⟨hcz43_0, hcz43_1, hcz43_2, hcz43_3, hfz43_0, hfz43_1, hfz43_2, hfz43_3⟩ := cf4 BK312.out) | ((with_reducible refine gate_callee (f := 36) rfl ?_); refine goesL_ (some 72) rfl rfl Try.func36 (by kernel_rfl) rfl #[.int .i64 a0_3, .int .i64 0, .int .i64 40] rfl ma_ ?_; (with_reducible refine (impl_within.calls a0_3 0 40 true _ A39.out).mono ?_); rintro e w' ⟨rfl, ⟨nd, rfl⟩⟩; refine ⟨_, rfl, ?_⟩)); go_ret; exact ⟨er_, bq_ HB⟩
      ·rw [if_neg c41] at H; have c41b0 : (a0_1 == 0) = false := beq_eq_false_iff_ne.mpr c41; have c41b1 : (a0_1 != 0) = true := bne_iff_ne.mpr c41; obtain rfl := Option.some.inj H
       go_enter Try.func96, Try.ntmps96
       go_wp2_with (first | ((with_reducible refine gate_dst (N := 1) rfl ?_); refine be_ 1 67 #[.int .i64 a0_0, .int .i64 a0_1, .string a0_2, .int .i64 a0_3] ?_; intro gb312 hg w44 hbox hb; have n0_ := Aside0.mk (bs_ hb); have n1_ := Aside0.mk (hbox); have n2_ := Aside0.mk ((by rw [hg]; exact bz_ : w.heap.size ≤ gb312)); have n3_ := Aside0.mk ((by rw [hg]; exact bz_ : w.heap.size ≤ gb312)); clear HB; have HB := n0_; have BK312 := n1_; have GW312 := n2_; have GE312 := n3_; clear n0_ n1_ n2_ n3_; clear hb hbox hg; obtain ⟨hcz45_0, hcz45_1, hcz45_2, hcz45_3, hfz45_0, hfz45_1, hfz45_2, hfz45_3⟩ := cf4 BK312.out) | ((with_reducible refine gate_callee (f := 36) rfl ?_); refine goesL_ (some 72) rfl rfl Try.func36 (by kernel_rfl) rfl #[.int .i64 a0_3, .int .i64 0, .int .i64 40] rfl ma_ ?_; (with_reducible refine (impl_within.calls a0_3 0 40 true _ A39.out).mono ?_); rintro e w' ⟨rfl, ⟨nd, rfl⟩⟩; refine ⟨_, rfl, ?_⟩)); go_ret; exact ⟨er_, bq_ HB⟩
     ·replace c40 := Bool.eq_false_iff.mpr c40; subst c40; have H1 : (some false) = some r := by rw [if_neg (show ¬ (false = true) by decide)] at H; exact H
      clear H; have H := H1; clear H1; obtain rfl := Option.some.inj H
      go_enter Try.func96, Try.ntmps96
      go_wp2_with (first | ((with_reducible refine gate_dst (N := 1) rfl ?_); refine be_ 1 67 #[.int .i64 a0_0, .int .i64 a0_1, .string a0_2, .int .i64 a0_3] ?_; intro gb312 hg w46 hbox hb; have n0_ := Aside0.mk (bs_ hb); have n1_ := Aside0.mk (hbox); have n2_ := Aside0.mk ((by rw [hg]; exact bz_ : w.heap.size ≤ gb312)); have n3_ := Aside0.mk ((by rw [hg]; exact bz_ : w.heap.size ≤ gb312)); clear HB; have HB := n0_; have BK312 := n1_; have GW312 := n2_; have GE312 := n3_; clear n0_ n1_ n2_ n3_; clear hb hbox hg; obtain ⟨hcz47_0, hcz47_1, hcz47_2, hcz47_3, hfz47_0, hfz47_1, hfz47_2, hfz47_3⟩ := cf4 BK312.out) | ((with_reducible refine gate_callee (f := 36) rfl ?_); refine goesL_ (some 72) rfl rfl Try.func36 (by kernel_rfl) rfl #[.int .i64 a0_3, .int .i64 0, .int .i64 40] rfl ma_ ?_; (with_reducible refine (impl_within.calls a0_3 0 40 false _ A39.out).mono ?_); rintro e w' ⟨rfl, ⟨nd, rfl⟩⟩; refine ⟨_, rfl, ?_⟩)); go_ret; exact ⟨er_, bq_ HB⟩
    ·rw [if_neg c38] at H; have c38b0 : (a0_0 == 4) = false := beq_eq_false_iff_ne.mpr c38; have c38b1 : (a0_0 != 4) = true := bne_iff_ne.mpr c38; obtain rfl := Option.some.inj H
     go_enter Try.func96, Try.ntmps96
     go_wp2_with (first | ((with_reducible refine gate_dst (N := 1) rfl ?_); refine be_ 1 67 #[.int .i64 a0_0, .int .i64 a0_1, .string a0_2, .int .i64 a0_3] ?_; intro gb312 hg w48 hbox hb; have n0_ := Aside0.mk (bs_ hb); have n1_ := Aside0.mk (hbox); have n2_ := Aside0.mk ((by rw [hg]; exact bz_ : w.heap.size ≤ gb312)); have n3_ := Aside0.mk ((by rw [hg]; exact bz_ : w.heap.size ≤ gb312)); clear HB; have HB := n0_; have BK312 := n1_; have GW312 := n2_; have GE312 := n3_; clear n0_ n1_ n2_ n3_; clear hb hbox hg; obtain ⟨hcz49_0, hcz49_1, hcz49_2, hcz49_3, hfz49_0, hfz49_1, hfz49_2, hfz49_3⟩ := cf4 BK312.out)); go_ret; exact ⟨er_, bq_ HB⟩
mutual
def impl_value.j0 : Nat → List (S67) → Int → Bool → Option (Int × Int)
 | 0, _, _, _ => none
 | k + 1, x0, x1, x21 => if x21 = true then (some ((-1), 0)) else (if 0 ≤ x1 then (if x1 < (x0.length : Int) then (if ((rd_T67 x0 x1).f0) = 4 then (impl_value.l0 k x0 (wrap64 (x1 + 1)) 0 ((rd_T67 x0 x1).f3) 0) else (some (wrap64 (x1 + 1), 0))) else (none)) else (none))
def impl_value.l0 : Nat → List (S67) → Int → Int → Int → Int → Option (Int × Int)
 | 0, _, _, _, _, _ => none
 | k + 1, x0, x1, x7, x33, x34 => if x34 < x33 then ((impl_value.f k x0 x1).bind fun bt320 => (if bt320.1 < 0 then (some ((-1), 0)) else (impl_value.l0 k x0 bt320.1 (mx x7 bt320.2) x33 (wrap64 (x34 + 1))))) else (some (x1, wrap64 (x7 + 1)))
def impl_value.f : Nat → List (S67) → Int → Option (Int × Int)
 | 0, _, _ => none
 | k + 1, l0, a1 => if a1 ≥ (l0.length : Int) then (impl_value.j0 k l0 a1 true) else (if 0 ≤ a1 then (if a1 < (l0.length : Int) then ((impl_itemOK.f k ((rd_T67 l0 a1).f0) ((rd_T67 l0 a1).f1) ((rd_T67 l0 a1).f2) ((rd_T67 l0 a1).f3)).bind fun t317 => (impl_value.j0 k l0 a1 (!t317))) else (none)) else (none))
end
theorem impl_value.mono_l : ∀ k, (∀ y0 y1, LeO (impl_value.f k y0 y1) (impl_value.f (k + 1) y0 y1)) ∧ (∀ y0 y1 y2, LeO (impl_value.j0 k y0 y1 y2) (impl_value.j0 (k + 1) y0 y1 y2)) ∧ (∀ y0 y1 y2 y3 y4, LeO (impl_value.l0 k y0 y1 y2 y3 y4) (impl_value.l0 (k + 1) y0 y1 y2 y3 y4))
 | 0 => ⟨fun _ _ r h => by simp [impl_value.f] at h, fun _ _ _ r h => by simp [impl_value.j0] at h, fun _ _ _ _ _ r h => by simp [impl_value.l0] at h⟩
 | k + 1 => by
  obtain ⟨ih0, ih1, ih2⟩ := impl_value.mono_l k; refine ⟨?_, ?_, ?_⟩
  ·intro y0 y1; unfold impl_value.f
   repeat' first
   | (with_reducible exact ih0 _ _)
   | (with_reducible exact ih1 _ _ _)
   | (with_reducible exact ih2 _ _ _ _ _)
   | (with_reducible exact impl_itemOK.mono _ _ _ _ _)
   | (with_reducible exact LeO.refl _)
   | (with_reducible exact LeO.none _)
   | (with_reducible refine LeO.ite ?_ ?_)
   | (with_reducible refine LeO.bind ?_ (fun _ => ?_))
   | exact ih0 _ _
   | exact ih1 _ _ _
   | exact ih2 _ _ _ _ _
   | exact impl_itemOK.mono _ _ _ _ _
   | exact LeO.none _
   | refine LeO.ite ?_ ?_
   | refine LeO.bind ?_ (fun _ => ?_)
  ·intro y0 y1 y2; unfold impl_value.j0
   repeat' first
   | (with_reducible exact ih0 _ _)
   | (with_reducible exact ih1 _ _ _)
   | (with_reducible exact ih2 _ _ _ _ _)
   | (with_reducible exact impl_itemOK.mono _ _ _ _ _)
   | (with_reducible exact LeO.refl _)
   | (with_reducible exact LeO.none _)
   | (with_reducible refine LeO.ite ?_ ?_)
   | (with_reducible refine LeO.bind ?_ (fun _ => ?_))
   | exact ih0 _ _
   | exact ih1 _ _ _
   | exact ih2 _ _ _ _ _
   | exact impl_itemOK.mono _ _ _ _ _
   | exact LeO.none _
   | refine LeO.ite ?_ ?_
   | refine LeO.bind ?_ (fun _ => ?_)
  ·intro y0 y1 y2 y3 y4; unfold impl_value.l0
   repeat' first
   | (with_reducible exact ih0 _ _)
   | (with_reducible exact ih1 _ _ _)
   | (with_reducible exact ih2 _ _ _ _ _)
   | (with_reducible exact impl_itemOK.mono _ _ _ _ _)
   | (with_reducible exact LeO.refl _)
   | (with_reducible exact LeO.none _)
   | (with_reducible refine LeO.ite ?_ ?_)
   | (with_reducible refine LeO.bind ?_ (fun _ => ?_))
   | exact ih0 _ _
   | exact ih1 _ _ _
   | exact ih2 _ _ _ _ _
   | exact impl_itemOK.mono _ _ _ _ _
   | exact LeO.none _
   | refine LeO.ite ?_ ?_
   | refine LeO.bind ?_ (fun _ => ?_)
theorem impl_value.mono : ∀ a0 a1 k, LeO (impl_value.f k a0 a1) (impl_value.f (k + 1) a0 a1) := by
 intro a0 a1 k; obtain ⟨ih0, ih1, ih2⟩ := impl_value.mono_l k; exact ih0 a0 a1
set_option maxHeartbeats 8000000 in
set_option maxRecDepth 100000 in
theorem impl_value.calls (k : Nat) : ∀ (A0 : Option Addr) (c0 : Nat) (l0 : List (S67)) (a1 : Int) (r1 : Int) (r2 : Int) (w : World) (hr0 : Kd.C k67 w A0 l0.length l0) (hc0 : l0.length ≤ c0) (h : impl_value.f k l0 a1 = some (r1, r2)),
  Calls Try.prog 90 #[.slice A0 l0.length c0, .int .i64 a1] w fun e w' => e = .returned (.tuple #[.int .i64 r1, .int .i64 r2]) ∧ Below w.heap.size w w' := by
 induction k using Nat.strongRecOn with
 | _ k ih =>
 intro A0 c0 l0 a1 r1 r2 w hr0 hc0 h; cases k with
 | zero => exact absurd h (by simp [impl_value.f])
 | succ k =>
 simp only [impl_value.f] at h; have hu67 := Try.underlying67; have HR0 := Aside0.mk hr0; have HC0 := Aside0.mk hc0; clear hr0 hc0; have HB := Aside0.mk (Below.refl w.heap.size w); have H : (if a1 ≥ (l0.length : Int) then (impl_value.j0 k l0 a1 true) else (if 0 ≤ a1 then (if a1 < (l0.length : Int) then ((impl_itemOK.f k ((rd_T67 l0 a1).f0) ((rd_T67 l0 a1).f1) ((rd_T67 l0 a1).f2) ((rd_T67 l0 a1).f3)).bind fun t317 => (impl_value.j0 k l0 a1 (!t317))) else (none)) else (none))) = some (r1, r2) := h; clear h; have HC3 := Aside0.mk H; clear H
 go_enter Try.func90, Try.ntmps90
 go_upto_region 1 with (fail)
 go_cut [21] (fun v21 wc => ∃ (kq : Nat) (x21_2 : Bool), v21 = .bool x21_2 ∧ Aside0 (impl_value.j0 kq l0 a1 x21_2 = some (r1, r2)) ∧ Aside0 (kq ≤ k) ∧ Aside0 (Below w.heap.size w wc))
 case first =>
  have H := HC3.out; clear HC3; by_cases c4 : a1 ≥ (l0.length : Int)
  ·rw [if_pos c4] at H; have c4b0 : decide ((l0.length : Int) ≤ a1) = true := decide_eq_true c4; clear c4; (first | rw [c4b0] | (simp only [i64_w, i32_w]; rw [c4b0]) | skip); have H' := Aside0.mk H; clear H; go_wp2; go_meet
   case rel => exact ⟨_, (true), fs_, H', ⟨by first | omega | exact Nat.le_refl _⟩, ⟨bq_ HB⟩⟩
  ·rw [if_neg c4] at H; have c4b0 : decide ((l0.length : Int) ≤ a1) = false := decide_eq_false c4; clear c4; (first | rw [c4b0] | (simp only [i64_w, i32_w]; rw [c4b0]) | skip); by_cases c5 : 0 ≤ a1
   ·rw [if_pos c5] at H; have c5b0 : decide (0 ≤ a1) = true := decide_eq_true c5; clear c5; by_cases c6 : a1 < (l0.length : Int)
    ·rw [if_pos c6] at H; have c6b0 : decide (a1 < (l0.length : Int)) = true := decide_eq_true c6; clear c6; replace H := Option.bind_eq_some_iff.mp H; obtain ⟨t317, A70, H⟩ := H; replace H : (impl_value.j0 k l0 a1 (!t317)) = some (r1, r2) := H; have A7 := Aside0.mk A70; clear A70; have H' := Aside0.mk H; clear H; have p316 : 0 ≤ (a1 : Int) := od_; have q316 : a1 < (l0.length : Int) := od_; obtain ⟨ad316, e316, hx316_0, hx316_1, hx316_2, hx316_3⟩ := at_T67 HR0.out a1 p316 q316; cases e316; replace hx316_0 := ce_ HB.out hx316_0; replace hx316_1 := ce_ HB.out hx316_1; replace hx316_2 := ce_ HB.out hx316_2; replace hx316_3 := ce_ HB.out hx316_3; replace p316 := eq_true p316; replace q316 := eq_true q316; go_wp2_with (first | (go_at_call 96; (with_reducible refine (impl_itemOK.calls k ((rd_T67 l0 a1).f0) ((rd_T67 l0 a1).f1) ((rd_T67 l0 a1).f2) ((rd_T67 l0 a1).f3) t317 _ A7.out).mono ?_); rintro e w8 ⟨rfl, hb⟩; have n0_ := Aside0.mk (bs_ hb); clear HB; have HB := n0_; clear n0_; (try clear hb); (try clear hb2); (try clear hk); (try clear hi))); go_meet
     case rel => exact ⟨_, (!t317), fs_, H', ⟨by first | omega | exact Nat.le_refl _⟩, ⟨bq_ HB⟩⟩
    ·rw [if_neg c6] at H; exact no_ H
   ·rw [if_neg c5] at H; exact no_ H
 case rest =>
  clear HC3; try clear p2
  try clear p3
  try clear q3
  try clear hx3
  try clear c4
  try clear c4b0
  try clear c5
  try clear c5b0
  try clear c6
  try clear c6b0
  try clear hx316_0
  try clear hx316_1
  try clear hx316_2
  try clear hx316_3
  try clear p316
  try clear q316
  obtain ⟨kq, x21_2, rfl, HA, HJ2, HB⟩ := hcut; cases kq with
  | zero => exact absurd HA.out (by simp [impl_value.j0])
  | succ kj2 =>
   have H := HA.out; clear HA; simp only [impl_value.j0] at H; by_cases c9 : x21_2 = true
   ·subst c9; have H1 : (some ((-1), 0)) = some (r1, r2) := by rw [if_pos rfl] at H; exact H
    clear H; have H := H1; clear H1; simp only [Option.some.injEq, Prod.mk.injEq] at H; obtain ⟨rfl, rfl⟩ := H; go_wp2; go_ret2; exact ⟨er_, bq_ HB⟩
   ·replace c9 := Bool.eq_false_iff.mpr c9; subst c9; have H1 : (if 0 ≤ a1 then (if a1 < (l0.length : Int) then (if ((rd_T67 l0 a1).f0) = 4 then (impl_value.l0 kj2 l0 (wrap64 (a1 + 1)) 0 ((rd_T67 l0 a1).f3) 0) else (some (wrap64 (a1 + 1), 0))) else (none)) else (none)) = some (r1, r2) := by rw [if_neg (show ¬ (false = true) by decide)] at H; exact H
    clear H; have H := H1; clear H1; by_cases c10 : 0 ≤ a1
    ·rw [if_pos c10] at H; have c10b0 : decide (0 ≤ a1) = true := decide_eq_true c10; clear c10; by_cases c11 : a1 < (l0.length : Int)
     ·rw [if_pos c11] at H; have c11b0 : decide (a1 < (l0.length : Int)) = true := decide_eq_true c11; clear c11; by_cases c12 : ((rd_T67 l0 a1).f0) = 4
      ·rw [if_pos c12] at H; have c12b0 : (((rd_T67 l0 a1).f0) == 4) = true := beq_iff_eq.mpr c12; have c12b1 : (((rd_T67 l0 a1).f0) != 4) = false := bne_eq_false_iff_eq.mpr c12; clear c12; have H' := Aside0.mk H; clear H; have p318 : 0 ≤ (a1 : Int) := od_; have q318 : a1 < (l0.length : Int) := od_; obtain ⟨ad318, e318, hx318_0, hx318_1, hx318_2, hx318_3⟩ := at_T67 HR0.out a1 p318 q318; cases e318; replace hx318_0 := ce_ HB.out hx318_0; replace hx318_1 := ce_ HB.out hx318_1; replace hx318_2 := ce_ HB.out hx318_2; replace hx318_3 := ce_ HB.out hx318_3; replace p318 := eq_true p318; replace q318 := eq_true q318; go_wp2_with (first | ((with_reducible refine gate_dst (N := 6) rfl ?_); refine be_ 6 67 (#[.int .i64 0, .int .i64 0, .string (⟨#[]⟩ : ByteArray), .int .i64 0]) ?_; intro gb319 hg w13 hbox hb; have n0_ := Aside0.mk (bs_ hb); have n1_ := Aside0.mk (hbox); have n2_ := Aside0.mk ((by rw [hg]; exact bz_ : w.heap.size ≤ gb319)); have n3_ := Aside0.mk ((by rw [hg]; exact bz_ : w.heap.size ≤ gb319)); clear HB; have HB := n0_; have BK319 := n1_; have GW319 := n2_; have GE319 := n3_; clear n0_ n1_ n2_ n3_; clear hb hbox hg; obtain ⟨hcz14_0, hcz14_1, hcz14_2, hcz14_3, hfz14_0, hfz14_1, hfz14_2, hfz14_3⟩ := cf4 BK319.out))
       go_loopg [1, 7, 34] kj2 (fun kq v1 v7 v34 w' => ∃ (x1_2 : Int) (x7_2 : Int) (x34_2 : Int), v1 = .int .i64 x1_2 ∧ v7 = .int .i64 x7_2 ∧ v34 = .int .i64 x34_2 ∧ Aside0 (impl_value.l0 kq l0 x1_2 x7_2 ((rd_T67 l0 a1).f3) x34_2 = some (r1, r2)) ∧ Aside0 (kq ≤ kj2) ∧ Aside0 (w'.heap[gb319]? = some (.cells #[.int .i64 ((rd_T67 l0 a1).f0), .int .i64 ((rd_T67 l0 a1).f1), .string ((rd_T67 l0 a1).f2), .int .i64 ((rd_T67 l0 a1).f3)] 67 (0, 0))) ∧ Aside0 (Below w.heap.size w w'))
       case atStart => exact ⟨(wrap64 (a1 + 1)), (0), (0), fs_, fs_, fs_, H', ⟨Nat.le_refl _⟩, ⟨pb4_⟩, ⟨bq_ HB⟩⟩
       case round =>
        clear H'; try clear c1
        try clear p2
        try clear p3
        try clear q3
        try clear hx3
        try clear c4
        try clear c4b0
        try clear c5
        try clear c5b0
        try clear c6
        try clear c6b0
        try clear p6
        try clear c9
        try clear c10
        try clear c10b0
        try clear c11
        try clear c11b0
        try clear c12
        try clear c12b0
        try clear c12b1
        try clear hcz14_0
        try clear hcz14_1
        try clear hcz14_2
        try clear hcz14_3
        try clear hfz14_0
        try clear hfz14_1
        try clear hfz14_2
        try clear hfz14_3
        try clear hx316_0
        try clear hx316_1
        try clear hx316_2
        try clear hx316_3
        try clear hx318_0
        try clear hx318_1
        try clear hx318_2
        try clear hx318_3
        try clear p2
        try clear p3
        try clear p316
        try clear p318
        try clear q3
        try clear q316
        try clear q318
        obtain ⟨x1_2, x7_2, x34_2, rfl, rfl, rfl, HA, HK2, BK319, HB⟩ := hrel; cases gk with
        | zero => exact absurd HA.out (by simp [impl_value.l0])
        | succ k2 =>
         have H := HA.out; clear HA; simp only [impl_value.l0] at H; by_cases c15 : x34_2 < ((rd_T67 l0 a1).f3)
         ·rw [if_pos c15] at H; have c15b0 : decide (x34_2 < ((rd_T67 l0 a1).f3)) = true := decide_eq_true c15; clear c15; replace H := Option.bind_eq_some_iff.mp H; obtain ⟨⟨t320, t321⟩, A160, H⟩ := H; replace H : (if t320 < 0 then (some ((-1), 0)) else (impl_value.l0 k2 l0 t320 (mx x7_2 t321) ((rd_T67 l0 a1).f3) (wrap64 (x34_2 + 1)))) = some (r1, r2) := H; have A16 := Aside0.mk A160; clear A160; by_cases c17 : t320 < 0
          ·rw [if_pos c17] at H; have c17b0 : decide (t320 < 0) = true := decide_eq_true c17; clear c17; simp only [Option.some.injEq, Prod.mk.injEq] at H; obtain ⟨rfl, rfl⟩ := H; go_wp2_with (first | ((with_reducible refine gate_callee (f := 90) rfl ?_); refine goesL_ (some 39) rfl rfl Try.func90 (by kernel_rfl) rfl #[.slice (some ad318) l0.length c0, .int .i64 x1_2] rfl ma_ ?_; (with_reducible refine (ih k2 (by have := HJ2.out; have := HK2.out; omega) _ _ l0 x1_2 t320 t321 _ ?side1 ?side2 A16.out).mono ?_); (case side1 => repeat (first | exact (Kd.C_below HR0.out HB.out) | with_reducible first | refine Kd.C_alloc ?_ _ | refine Kd.C_drewN ?_ _ | refine Kd.C_drew ?_)); (case side2 => exact HC0.out); rintro e w18 ⟨rfl, hb⟩; refine ⟨_, rfl, ?_⟩; have n0_ := Aside0.mk (blk_below (g := gb319) (o := .cells #[.int .i64 ((rd_T67 l0 a1).f0), .int .i64 ((rd_T67 l0 a1).f1), .string ((rd_T67 l0 a1).f2), .int .i64 ((rd_T67 l0 a1).f3)] 67 (0, 0)) pq_ hb); have n1_ := Aside0.mk (below_step (bq_ HB) hb); clear BK319; clear HB; have BK319 := n0_; have HB := n1_; clear n0_ n1_; (try clear hb); (try clear hb2); (try clear hk); (try clear hi))); go_ret2; exact ⟨er_, bq_ HB⟩
          ·rw [if_neg c17] at H; have c17b0 : decide (t320 < 0) = false := decide_eq_false c17; clear c17; obtain ⟨ji19, hji19⟩ : ∃ j_ : Int, (mx x7_2 t321) = j_ := ⟨_, rfl⟩
           replace H : (impl_value.l0 k2 l0 t320 ji19 ((rd_T67 l0 a1).f3) (wrap64 (x34_2 + 1))) = some (r1, r2) := by first | (rw [hji19] at H; exact H) | (simp only [hji19] at H ⊢; exact H)
           (try rw [hji19] at A16); have hji19_ : (if x7_2 < t321 then t321 else x7_2) = ji19 := hji19; have H' := Aside0.mk H; clear H; go_wp2_with (first | ((with_reducible refine gate_callee (f := 90) rfl ?_); refine goesL_ (some 39) rfl rfl Try.func90 (by kernel_rfl) rfl #[.slice (some ad318) l0.length c0, .int .i64 x1_2] rfl ma_ ?_; (with_reducible refine (ih k2 (by have := HJ2.out; have := HK2.out; omega) _ _ l0 x1_2 t320 t321 _ ?side1 ?side2 A16.out).mono ?_); (case side1 => repeat (first | exact (Kd.C_below HR0.out HB.out) | with_reducible first | refine Kd.C_alloc ?_ _ | refine Kd.C_drewN ?_ _ | refine Kd.C_drew ?_)); (case side2 => exact HC0.out); rintro e w20 ⟨rfl, hb⟩; refine ⟨_, rfl, ?_⟩; have n0_ := Aside0.mk (blk_below (g := gb319) (o := .cells #[.int .i64 ((rd_T67 l0 a1).f0), .int .i64 ((rd_T67 l0 a1).f1), .string ((rd_T67 l0 a1).f2), .int .i64 ((rd_T67 l0 a1).f3)] 67 (0, 0)) pq_ hb); have n1_ := Aside0.mk (below_step (bq_ HB) hb); clear BK319; clear HB; have BK319 := n0_; have HB := n1_; clear n0_ n1_; (try clear hb); (try clear hb2); (try clear hk); (try clear hi))); go_roundg k2
           case measure => have := HJ2.out; have := HK2.out; omega
           case rel => exact ⟨(t320), (ji19), (wrap64 (x34_2 + 1)), fs_, (by first | rfl | (simp; done) | (simp only [← hji19] <;> (first | rfl | simp)) | (simp [*]; done)), fs_, H', ⟨by have := HJ2.out; have := HK2.out; omega⟩, ⟨pq_⟩, ⟨bq_ HB⟩⟩
         ·rw [if_neg c15] at H; have c15b0 : decide (x34_2 < ((rd_T67 l0 a1).f3)) = false := decide_eq_false c15; clear c15; simp only [Option.some.injEq, Prod.mk.injEq] at H; obtain ⟨rfl, rfl⟩ := H; go_wp2; go_ret2; exact ⟨er_, bq_ HB⟩
      ·rw [if_neg c12] at H; have c12b0 : (((rd_T67 l0 a1).f0) == 4) = false := beq_eq_false_iff_ne.mpr c12; have c12b1 : (((rd_T67 l0 a1).f0) != 4) = true := bne_iff_ne.mpr c12; simp only [Option.some.injEq, Prod.mk.injEq] at H; obtain ⟨rfl, rfl⟩ := H; have p318 : 0 ≤ (a1 : Int) := od_; have q318 : a1 < (l0.length : Int) := od_; obtain ⟨ad318, e318, hx318_0, hx318_1, hx318_2, hx318_3⟩ := at_T67 HR0.out a1 p318 q318; cases e318; replace hx318_0 := ce_ HB.out hx318_0; replace hx318_1 := ce_ HB.out hx318_1; replace hx318_2 := ce_ HB.out hx318_2; replace hx318_3 := ce_ HB.out hx318_3; replace p318 := eq_true p318; replace q318 := eq_true q318; go_wp2_with (first | ((with_reducible refine gate_dst (N := 6) rfl ?_); refine be_ 6 67 (#[.int .i64 0, .int .i64 0, .string (⟨#[]⟩ : ByteArray), .int .i64 0]) ?_; intro gb319 hg w21 hbox hb; have n0_ := Aside0.mk (bs_ hb); have n1_ := Aside0.mk (hbox); have n2_ := Aside0.mk ((by rw [hg]; exact bz_ : w.heap.size ≤ gb319)); have n3_ := Aside0.mk ((by rw [hg]; exact bz_ : w.heap.size ≤ gb319)); clear HB; have HB := n0_; have BK319 := n1_; have GW319 := n2_; have GE319 := n3_; clear n0_ n1_ n2_ n3_; clear hb hbox hg; obtain ⟨hcz22_0, hcz22_1, hcz22_2, hcz22_3, hfz22_0, hfz22_1, hfz22_2, hfz22_3⟩ := cf4 BK319.out)); go_ret2; exact ⟨er_, bq_ HB⟩
     ·rw [if_neg c11] at H; exact no_ H
    ·rw [if_neg c10] at H; exact no_ H
def impl_GoodItems.f (k : Nat) (l0 : List (S67)) : Option (Bool) := (impl_within.f (l0.length : Int) 1 40).bind fun t322 => (if t322 = true then ((impl_value.f k l0 0).bind fun bt323 => (if bt323.1 = (l0.length : Int) then (if bt323.2 ≤ 5 then ((impl_itemsBytes.f k l0).bind fun t325 => (some (decide ((t325.size : Int) ≤ 400)))) else (some false)) else (some false))) else (some false))
theorem impl_GoodItems.mono : ∀ a0 k, LeO (impl_GoodItems.f k a0) (impl_GoodItems.f (k + 1) a0) := by
 intro a0 k; unfold impl_GoodItems.f
 repeat' first
   | (with_reducible exact impl_itemsBytes.mono _ _)
   | (with_reducible exact impl_value.mono _ _ _)
   | (with_reducible exact LeO.refl _)
   | (with_reducible exact LeO.none _)
   | (with_reducible refine LeO.ite ?_ ?_)
   | (with_reducible refine LeO.bind ?_ (fun _ => ?_))
   | exact impl_itemsBytes.mono _ _
   | exact impl_value.mono _ _ _
   | exact LeO.none _
   | refine LeO.ite ?_ ?_
   | refine LeO.bind ?_ (fun _ => ?_)
set_option maxHeartbeats 8000000 in
set_option maxRecDepth 100000 in
theorem impl_GoodItems.calls (k : Nat) (A0 : Option Addr) (c0 : Nat) (l0 : List (S67)) (r : Bool) (w : World) (hr0 : Kd.C k67 w A0 l0.length l0) (hc0 : l0.length ≤ c0) (h : impl_GoodItems.f k l0 = some r) :
  Calls Try.prog 68 #[.slice A0 l0.length c0] w fun e w' => e = .returned (.bool r) ∧ Below w.heap.size w w' := by
 have HR0 := Aside0.mk hr0; have HC0 := Aside0.mk hc0; clear hr0 hc0; have HB := Aside0.mk (Below.refl w.heap.size w); have H : ((impl_within.f (l0.length : Int) 1 40).bind fun t322 => (if t322 = true then ((impl_value.f k l0 0).bind fun bt323 => (if bt323.1 = (l0.length : Int) then (if bt323.2 ≤ 5 then ((impl_itemsBytes.f k l0).bind fun t325 => (some (decide ((t325.size : Int) ≤ 400)))) else (some false)) else (some false))) else (some false))) = some r := h; clear h; replace H := Option.bind_eq_some_iff.mp H; obtain ⟨t322, A20, H⟩ := H; replace H : (if t322 = true then ((impl_value.f k l0 0).bind fun bt323 => (if bt323.1 = (l0.length : Int) then (if bt323.2 ≤ 5 then ((impl_itemsBytes.f k l0).bind fun t325 => (some (decide ((t325.size : Int) ≤ 400)))) else (some false)) else (some false))) else (some false)) = some r := H; have A2 := Aside0.mk A20; clear A20; by_cases c3 : t322 = true
 ·subst c3; have H1 : ((impl_value.f k l0 0).bind fun bt323 => (if bt323.1 = (l0.length : Int) then (if bt323.2 ≤ 5 then ((impl_itemsBytes.f k l0).bind fun t325 => (some (decide ((t325.size : Int) ≤ 400)))) else (some false)) else (some false))) = some r := by rw [if_pos rfl] at H; exact H
  clear H; have H := H1; clear H1; replace H := Option.bind_eq_some_iff.mp H; obtain ⟨⟨t323, t324⟩, A40, H⟩ := H; replace H : (if t323 = (l0.length : Int) then (if t324 ≤ 5 then ((impl_itemsBytes.f k l0).bind fun t325 => (some (decide ((t325.size : Int) ≤ 400)))) else (some false)) else (some false)) = some r := H; have A4 := Aside0.mk A40; clear A40; by_cases c5 : t323 = (l0.length : Int)
  ·rw [if_pos c5] at H; have c5b0 : (t323 == (l0.length : Int)) = true := beq_iff_eq.mpr c5; have c5b1 : (t323 != (l0.length : Int)) = false := bne_eq_false_iff_eq.mpr c5; clear c5; by_cases c6 : t324 ≤ 5
   ·rw [if_pos c6] at H; have c6b0 : decide (t324 ≤ 5) = true := decide_eq_true c6; clear c6; replace H := Option.bind_eq_some_iff.mp H; obtain ⟨t325, A70, H⟩ := H; replace H : (some (decide ((t325.size : Int) ≤ 400))) = some r := H; have A7 := Aside0.mk A70; clear A70; obtain rfl := Option.some.inj H
    go_enter Try.func68, Try.ntmps68
    go_wp2_with (first | ((with_reducible refine gate_callee (f := 36) rfl ?_); refine goesL_ (some 7) rfl rfl Try.func36 (by kernel_rfl) rfl #[.int .i64 (l0.length : Int), .int .i64 1, .int .i64 40] rfl ma_ ?_; (with_reducible refine (impl_within.calls (l0.length : Int) 1 40 true _ A2.out).mono ?_); rintro e w' ⟨rfl, ⟨nd, rfl⟩⟩; refine ⟨_, rfl, ?_⟩) | ((with_reducible refine gate_callee (f := 90) rfl ?_); refine goesL_ (some 11) rfl rfl Try.func90 (by kernel_rfl) rfl #[.slice A0 l0.length c0, .int .i64 0] rfl ma_ ?_; (with_reducible refine (impl_value.calls k _ _ l0 0 t323 t324 _ ?side1 ?side2 A4.out).mono ?_); (case side1 => repeat (first | exact HR0.out | with_reducible first | refine Kd.C_alloc ?_ _ | refine Kd.C_drewN ?_ _ | refine Kd.C_drew ?_)); (case side2 => exact HC0.out); rintro e w8 ⟨rfl, hb⟩; refine ⟨_, rfl, ?_⟩; have n0_ := Aside0.mk (bs_ hb); clear HB; have HB := n0_; clear n0_; (try clear hb); (try clear hb2); (try clear hk); (try clear hi)) | (go_at_call 43; (with_reducible refine (impl_itemsBytes.calls k _ _ l0 t325 _ ?side1 ?side2 A7.out).mono ?_); (case side1 => repeat (first | exact (Kd.C_below HR0.out HB.out) | with_reducible first | refine Kd.C_alloc ?_ _ | refine Kd.C_drewN ?_ _ | refine Kd.C_drew ?_)); (case side2 => exact HC0.out); rintro e w9 ⟨rfl, hb⟩; have n0_ := Aside0.mk (bs_ hb); clear HB; have HB := n0_; clear n0_; (try clear hb); (try clear hb2); (try clear hk); (try clear hi))); go_ret; exact ⟨er_, bq_ HB⟩
   ·rw [if_neg c6] at H; have c6b0 : decide (t324 ≤ 5) = false := decide_eq_false c6; clear c6; obtain rfl := Option.some.inj H
    go_enter Try.func68, Try.ntmps68
    go_wp2_with (first | ((with_reducible refine gate_callee (f := 36) rfl ?_); refine goesL_ (some 7) rfl rfl Try.func36 (by kernel_rfl) rfl #[.int .i64 (l0.length : Int), .int .i64 1, .int .i64 40] rfl ma_ ?_; (with_reducible refine (impl_within.calls (l0.length : Int) 1 40 true _ A2.out).mono ?_); rintro e w' ⟨rfl, ⟨nd, rfl⟩⟩; refine ⟨_, rfl, ?_⟩) | ((with_reducible refine gate_callee (f := 90) rfl ?_); refine goesL_ (some 11) rfl rfl Try.func90 (by kernel_rfl) rfl #[.slice A0 l0.length c0, .int .i64 0] rfl ma_ ?_; (with_reducible refine (impl_value.calls k _ _ l0 0 t323 t324 _ ?side1 ?side2 A4.out).mono ?_); (case side1 => repeat (first | exact HR0.out | with_reducible first | refine Kd.C_alloc ?_ _ | refine Kd.C_drewN ?_ _ | refine Kd.C_drew ?_)); (case side2 => exact HC0.out); rintro e w10 ⟨rfl, hb⟩; refine ⟨_, rfl, ?_⟩; have n0_ := Aside0.mk (bs_ hb); clear HB; have HB := n0_; clear n0_; (try clear hb); (try clear hb2); (try clear hk); (try clear hi))); go_ret; exact ⟨er_, bq_ HB⟩
  ·rw [if_neg c5] at H; have c5b0 : (t323 == (l0.length : Int)) = false := beq_eq_false_iff_ne.mpr c5; have c5b1 : (t323 != (l0.length : Int)) = true := bne_iff_ne.mpr c5; obtain rfl := Option.some.inj H
   go_enter Try.func68, Try.ntmps68
   go_wp2_with (first | ((with_reducible refine gate_callee (f := 36) rfl ?_); refine goesL_ (some 7) rfl rfl Try.func36 (by kernel_rfl) rfl #[.int .i64 (l0.length : Int), .int .i64 1, .int .i64 40] rfl ma_ ?_; (with_reducible refine (impl_within.calls (l0.length : Int) 1 40 true _ A2.out).mono ?_); rintro e w' ⟨rfl, ⟨nd, rfl⟩⟩; refine ⟨_, rfl, ?_⟩) | ((with_reducible refine gate_callee (f := 90) rfl ?_); refine goesL_ (some 11) rfl rfl Try.func90 (by kernel_rfl) rfl #[.slice A0 l0.length c0, .int .i64 0] rfl ma_ ?_; (with_reducible refine (impl_value.calls k _ _ l0 0 t323 t324 _ ?side1 ?side2 A4.out).mono ?_); (case side1 => repeat (first | exact HR0.out | with_reducible first | refine Kd.C_alloc ?_ _ | refine Kd.C_drewN ?_ _ | refine Kd.C_drew ?_)); (case side2 => exact HC0.out); rintro e w11 ⟨rfl, hb⟩; refine ⟨_, rfl, ?_⟩; have n0_ := Aside0.mk (bs_ hb); clear HB; have HB := n0_; clear n0_; (try clear hb); (try clear hb2); (try clear hk); (try clear hi))); go_ret; exact ⟨er_, bq_ HB⟩
 ·replace c3 := Bool.eq_false_iff.mpr c3; subst c3; have H1 : (some false) = some r := by rw [if_neg (show ¬ (false = true) by decide)] at H; exact H
  clear H; have H := H1; clear H1; obtain rfl := Option.some.inj H
  go_enter Try.func68, Try.ntmps68
  go_wp2_with (first | ((with_reducible refine gate_callee (f := 36) rfl ?_); refine goesL_ (some 7) rfl rfl Try.func36 (by kernel_rfl) rfl #[.int .i64 (l0.length : Int), .int .i64 1, .int .i64 40] rfl ma_ ?_; (with_reducible refine (impl_within.calls (l0.length : Int) 1 40 false _ A2.out).mono ?_); rintro e w' ⟨rfl, ⟨nd, rfl⟩⟩; refine ⟨_, rfl, ?_⟩)); go_ret; exact ⟨er_, bq_ HB⟩
end Go.Proofs.Ytaffjcaohbkmoaa.QFnBundles
