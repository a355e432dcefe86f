import Derived.Test.YtaffjcaohbkmoaaQFnBundlesx0
import Derived.Test.YtaffjcaohbkmoaaQFnBundlesx6
import Derived.Test.YtaffjcaohbkmoaaQFnBundlesx7
import Derived.Test.YtaffjcaohbkmoaaQFnBundlesx14
import Derived.Test.YtaffjcaohbkmoaaQFnBundlesx15
import Derived.Test.YtaffjcaohbkmoaaQFnBundlesx16
import Derived.Test.YtaffjcaohbkmoaaSq
namespace Go.Proofs.Ytaffjcaohbkmoaa.QFnBundles
open Go.RowKit Go.Proofs.YtaffjcaohbkmoaaW.PrintWords Go.Proofs.YtaffjcaohbkmoaaW.PrintLast Go.Proofs.YtaffjcaohbkmoaaW.PrintMore
attribute [local go_sem] max2_int min2_int max_two min_two max_three min_three max_four min_four   -- for this text's walks alone
set_option linter.unusedVariables false
set_option linter.unusedSimpArgs false
def spec_l2Good.f (k : Nat) (l0 : List (S67)) : Option (Bool) := (spec_l2Value.f k l0 0 0).bind fun bt414 => (if bt414.2.2 = true then (if bt414.1 = (l0.length : Int) then (some (decide ((l0.length : Int) ≤ 40))) else (some false)) else (some false))
theorem spec_l2Good.mono : ∀ a0 k, LeO (spec_l2Good.f k a0) (spec_l2Good.f (k + 1) a0) := by
 intro a0 k; unfold spec_l2Good.f
 repeat' first
   | (with_reducible exact spec_l2Value.mono _ _ _ _)
   | (with_reducible exact LeO.refl _)
   | (with_reducible exact LeO.none _)
   | (with_reducible refine LeO.ite ?_ ?_)
   | (with_reducible refine LeO.bind ?_ (fun _ => ?_))
   | exact spec_l2Value.mono _ _ _ _
   | exact LeO.none _
   | refine LeO.ite ?_ ?_
   | refine LeO.bind ?_ (fun _ => ?_)
set_option maxHeartbeats 8000000 in
set_option maxRecDepth 100000 in
theorem spec_l2Good.calls (k : Nat) (A0 : Option Addr) (c0 : Nat) (l0 : List (S67)) (r : Bool) (w : World) (hr0 : Kd.C k67 w A0 l0.length l0) (hc0 : l0.length ≤ c0) (h : spec_l2Good.f k l0 = some r) :
  Calls Try.prog 92 #[.slice A0 l0.length c0] w fun e w' => e = .returned (.bool r) ∧ Below w.heap.size w w' := by
 have HR0 := Aside0.mk hr0; have HC0 := Aside0.mk hc0; clear hr0 hc0; have HB := Aside0.mk (Below.refl w.heap.size w); have H : ((spec_l2Value.f k l0 0 0).bind fun bt414 => (if bt414.2.2 = true then (if bt414.1 = (l0.length : Int) then (some (decide ((l0.length : Int) ≤ 40))) else (some false)) else (some false))) = some r := h; clear h; replace H := Option.bind_eq_some_iff.mp H; obtain ⟨⟨t414, t415, t416⟩, A20, H⟩ := H; replace H : (if t416 = true then (if t414 = (l0.length : Int) then (some (decide ((l0.length : Int) ≤ 40))) else (some false)) else (some false)) = some r := H; have A2 := Aside0.mk A20; clear A20; by_cases c3 : t416 = true
 ·subst c3; have H1 : (if t414 = (l0.length : Int) then (some (decide ((l0.length : Int) ≤ 40))) else (some false)) = some r := by rw [if_pos rfl] at H; exact H
  clear H; have H := H1; clear H1; by_cases c4 : t414 = (l0.length : Int)
  ·rw [if_pos c4] at H; have c4b0 : (t414 == (l0.length : Int)) = true := beq_iff_eq.mpr c4; have c4b1 : (t414 != (l0.length : Int)) = false := bne_eq_false_iff_eq.mpr c4; clear c4; obtain rfl := Option.some.inj H
   go_enter Try.func92, Try.ntmps92
   go_wp2_with (first | ((with_reducible refine gate_callee (f := 97) rfl ?_); refine goesL_ (some 8) rfl rfl Try.func97 (by kernel_rfl) rfl #[.slice A0 l0.length c0, .int .i64 0, .int .i64 0] rfl ma_ ?_; (with_reducible refine (spec_l2Value.calls k _ _ l0 0 0 t414 t415 true _ ?side1 ?side2 A2.out).mono ?_); (case side1 => repeat (first | exact HR0.out | with_reducible first | refine Kd.C_alloc ?_ _ | refine Kd.C_drewN ?_ _ | refine Kd.C_drew ?_)); (case side2 => exact HC0.out); rintro e w5 ⟨rfl, hb⟩; refine ⟨_, rfl, ?_⟩; have n0_ := Aside0.mk (bs_ hb); clear HB; have HB := n0_; clear n0_; (try clear hb); (try clear hb2); (try clear hk); (try clear hi))); go_ret; exact ⟨er_, bq_ HB⟩
  ·rw [if_neg c4] at H; have c4b0 : (t414 == (l0.length : Int)) = false := beq_eq_false_iff_ne.mpr c4; have c4b1 : (t414 != (l0.length : Int)) = true := bne_iff_ne.mpr c4; obtain rfl := Option.some.inj H
   go_enter Try.func92, Try.ntmps92
   go_wp2_with (first | ((with_reducible refine gate_callee (f := 97) rfl ?_); refine goesL_ (some 8) rfl rfl Try.func97 (by kernel_rfl) rfl #[.slice A0 l0.length c0, .int .i64 0, .int .i64 0] rfl ma_ ?_; (with_reducible refine (spec_l2Value.calls k _ _ l0 0 0 t414 t415 true _ ?side1 ?side2 A2.out).mono ?_); (case side1 => repeat (first | exact HR0.out | with_reducible first | refine Kd.C_alloc ?_ _ | refine Kd.C_drewN ?_ _ | refine Kd.C_drew ?_)); (case side2 => exact HC0.out); rintro e w6 ⟨rfl, hb⟩; refine ⟨_, rfl, ?_⟩; have n0_ := Aside0.mk (bs_ hb); clear HB; have HB := n0_; clear n0_; (try clear hb); (try clear hb2); (try clear hk); (try clear hi))); go_ret; exact ⟨er_, bq_ HB⟩
 ·replace c3 := Bool.eq_false_iff.mpr c3; subst c3; have H1 : (some false) = some r := by rw [if_neg (show ¬ (false = true) by decide)] at H; exact H
  clear H; have H := H1; clear H1; obtain rfl := Option.some.inj H
  go_enter Try.func92, Try.ntmps92
  go_wp2_with (first | ((with_reducible refine gate_callee (f := 97) rfl ?_); refine goesL_ (some 8) rfl rfl Try.func97 (by kernel_rfl) rfl #[.slice A0 l0.length c0, .int .i64 0, .int .i64 0] rfl ma_ ?_; (with_reducible refine (spec_l2Value.calls k _ _ l0 0 0 t414 t415 false _ ?side1 ?side2 A2.out).mono ?_); (case side1 => repeat (first | exact HR0.out | with_reducible first | refine Kd.C_alloc ?_ _ | refine Kd.C_drewN ?_ _ | refine Kd.C_drew ?_)); (case side2 => exact HC0.out); rintro e w7 ⟨rfl, hb⟩; refine ⟨_, rfl, ?_⟩; have n0_ := Aside0.mk (bs_ hb); clear HB; have HB := n0_; clear n0_; (try clear hb); (try clear hb2); (try clear hk); (try clear hi))); go_ret; exact ⟨er_, bq_ HB⟩
def spec_GoodItems.f (k : Nat) (l0 : List (S67)) : Option (Bool) := (spec_l2Good.f k l0).bind fun t417 => (if t417 = true then ((spec_l2Bytes.f k l0).bind fun t418 => (some (decide ((t418.size : Int) ≤ 400)))) else (some false))
theorem spec_GoodItems.mono : ∀ a0 k, LeO (spec_GoodItems.f k a0) (spec_GoodItems.f (k + 1) a0) := by
 intro a0 k; unfold spec_GoodItems.f
 repeat' first
   | (with_reducible exact spec_l2Bytes.mono _ _)
   | (with_reducible exact spec_l2Good.mono _ _)
   | (with_reducible exact LeO.refl _)
   | (with_reducible exact LeO.none _)
   | (with_reducible refine LeO.ite ?_ ?_)
   | (with_reducible refine LeO.bind ?_ (fun _ => ?_))
   | exact spec_l2Bytes.mono _ _
   | exact spec_l2Good.mono _ _
   | exact LeO.none _
   | refine LeO.ite ?_ ?_
   | refine LeO.bind ?_ (fun _ => ?_)
set_option maxHeartbeats 8000000 in
set_option maxRecDepth 100000 in
theorem spec_GoodItems.calls (k : Nat) (A0 : Option Addr) (c0 : Nat) (l0 : List (S67)) (r : Bool) (w : World) (hr0 : Kd.C k67 w A0 l0.length l0) (hc0 : l0.length ≤ c0) (h : spec_GoodItems.f k l0 = some r) :
  Calls Try.prog 71 #[.slice A0 l0.length c0] w fun e w' => e = .returned (.bool r) ∧ Below w.heap.size w w' := by
 have HR0 := Aside0.mk hr0; have HC0 := Aside0.mk hc0; clear hr0 hc0; have HB := Aside0.mk (Below.refl w.heap.size w); have H : ((spec_l2Good.f k l0).bind fun t417 => (if t417 = true then ((spec_l2Bytes.f k l0).bind fun t418 => (some (decide ((t418.size : Int) ≤ 400)))) else (some false))) = some r := h; clear h; replace H := Option.bind_eq_some_iff.mp H; obtain ⟨t417, A20, H⟩ := H; replace H : (if t417 = true then ((spec_l2Bytes.f k l0).bind fun t418 => (some (decide ((t418.size : Int) ≤ 400)))) else (some false)) = some r := H; have A2 := Aside0.mk A20; clear A20; by_cases c3 : t417 = true
 ·subst c3; have H1 : ((spec_l2Bytes.f k l0).bind fun t418 => (some (decide ((t418.size : Int) ≤ 400)))) = some r := by rw [if_pos rfl] at H; exact H
  clear H; have H := H1; clear H1; replace H := Option.bind_eq_some_iff.mp H; obtain ⟨t418, A40, H⟩ := H; replace H : (some (decide ((t418.size : Int) ≤ 400))) = some r := H; have A4 := Aside0.mk A40; clear A40; obtain rfl := Option.some.inj H
  go_enter Try.func71, Try.ntmps71
  go_wp2_with (first | ((with_reducible refine gate_callee (f := 92) rfl ?_); refine goesL_ (some 4) rfl rfl Try.func92 (by kernel_rfl) rfl #[.slice A0 l0.length c0] rfl ma_ ?_; (with_reducible refine (spec_l2Good.calls k _ _ l0 true _ ?side1 ?side2 A2.out).mono ?_); (case side1 => repeat (first | exact HR0.out | with_reducible first | refine Kd.C_alloc ?_ _ | refine Kd.C_drewN ?_ _ | refine Kd.C_drew ?_)); (case side2 => exact HC0.out); rintro e w5 ⟨rfl, hb⟩; refine ⟨_, rfl, ?_⟩; have n0_ := Aside0.mk (bs_ hb); clear HB; have HB := n0_; clear n0_; (try clear hb); (try clear hb2); (try clear hk); (try clear hi)) | (go_at_call 65; (with_reducible refine (spec_l2Bytes.calls k _ _ l0 t418 _ ?side1 ?side2 A4.out).mono ?_); (case side1 => repeat (first | exact (Kd.C_below HR0.out HB.out) | with_reducible first | refine Kd.C_alloc ?_ _ | refine Kd.C_drewN ?_ _ | refine Kd.C_drew ?_)); (case side2 => exact HC0.out); rintro e w6 ⟨rfl, hb⟩; have n0_ := Aside0.mk (bs_ hb); clear HB; have HB := n0_; clear n0_; (try clear hb); (try clear hb2); (try clear hk); (try clear hi))); go_ret; exact ⟨er_, bq_ HB⟩
 ·replace c3 := Bool.eq_false_iff.mpr c3; subst c3; have H1 : (some false) = some r := by rw [if_neg (show ¬ (false = true) by decide)] at H; exact H
  clear H; have H := H1; clear H1; obtain rfl := Option.some.inj H
  go_enter Try.func71, Try.ntmps71
  go_wp2_with (first | ((with_reducible refine gate_callee (f := 92) rfl ?_); refine goesL_ (some 4) rfl rfl Try.func92 (by kernel_rfl) rfl #[.slice A0 l0.length c0] rfl ma_ ?_; (with_reducible refine (spec_l2Good.calls k _ _ l0 false _ ?side1 ?side2 A2.out).mono ?_); (case side1 => repeat (first | exact HR0.out | with_reducible first | refine Kd.C_alloc ?_ _ | refine Kd.C_drewN ?_ _ | refine Kd.C_drew ?_)); (case side2 => exact HC0.out); rintro e w7 ⟨rfl, hb⟩; refine ⟨_, rfl, ?_⟩; have n0_ := Aside0.mk (bs_ hb); clear HB; have HB := n0_; clear n0_; (try clear hb); (try clear hb2); (try clear hk); (try clear hi))); go_ret; exact ⟨er_, bq_ HB⟩
mutual
def spec_ReadItems.l0 : Nat → ByteArray → List (S67) → Int → Option ((List (S67)) × Bool)
 | 0, _, _, _ => none
 | k + 1, x0, x4, x5 => if x5 < (x0.size : Int) then (spec_ReadItems.j1 k x0 x4 x5 (decide ((x4.length : Int) ≤ 40))) else (spec_ReadItems.j1 k x0 x4 x5 false)
def spec_ReadItems.j1 : Nat → ByteArray → List (S67) → Int → Bool → Option ((List (S67)) × Bool)
 | 0, _, _, _, _ => none
 | k + 1, x0, x4, x5, x21 => if x21 = true then ((spec_l2TakeHead.f k x0 x5).bind fun bt419 => (if bt419.2.2.2 = true then (if bt419.1 = 0 then (if x4.length < 3518437208883 then (spec_ReadItems.l0 k x0 (x4 ++ [(⟨1, bt419.2.1, (⟨#[]⟩ : ByteArray), 0⟩ : S67)]) bt419.2.2.1) else (none)) else (if bt419.1 = 4 then (if x4.length < 3518437208883 then (spec_ReadItems.l0 k x0 (x4 ++ [(⟨4, 0, (⟨#[]⟩ : ByteArray), bt419.2.1⟩ : S67)]) bt419.2.2.1) else (none)) else (if bt419.1 = 2 then (if bt419.2.1 ≤ (wrap64 ((x0.size : Int) - bt419.2.2.1)) then (if 0 ≤ bt419.2.2.1 then (if bt419.2.2.1 ≤ (wrap64 (bt419.2.2.1 + bt419.2.1)) then (if (wrap64 (bt419.2.2.1 + bt419.2.1)) ≤ (x0.size : Int) then (if x4.length < 3518437208883 then (spec_ReadItems.l0 k x0 (x4 ++ [(⟨wrap64 ((wrap64 (2 + bt419.1)) - 2), 0, x0.extract (bt419.2.2.1 : Int).toNat ((wrap64 (bt419.2.2.1 + bt419.2.1)) : Int).toNat, 0⟩ : S67)]) (wrap64 (bt419.2.2.1 + bt419.2.1))) else (none)) else (none)) else (none)) else (none)) else (some (([] : List (S67)), false))) else (if bt419.1 = 3 then (if bt419.2.1 ≤ (wrap64 ((x0.size : Int) - bt419.2.2.1)) then (if 0 ≤ bt419.2.2.1 then (if bt419.2.2.1 ≤ (wrap64 (bt419.2.2.1 + bt419.2.1)) then (if (wrap64 (bt419.2.2.1 + bt419.2.1)) ≤ (x0.size : Int) then (if x4.length < 3518437208883 then (spec_ReadItems.l0 k x0 (x4 ++ [(⟨wrap64 ((wrap64 (2 + bt419.1)) - 2), 0, x0.extract (bt419.2.2.1 : Int).toNat ((wrap64 (bt419.2.2.1 + bt419.2.1)) : Int).toNat, 0⟩ : S67)]) (wrap64 (bt419.2.2.1 + bt419.2.1))) else (none)) else (none)) else (none)) else (none)) else (some (([] : List (S67)), false))) else (some (([] : List (S67)), false)))))) else (some (([] : List (S67)), false)))) else ((spec_GoodItems.f k x4).bind fun t435 => (if t435 = true then ((spec_l2Bytes.f k x4).bind fun t436 => (if t436.toList = x0.toList then (some (x4, true)) else (some (([] : List (S67)), false)))) else (some (([] : List (S67)), false))))
end
def spec_ReadItems.f (k : Nat) (a0 : ByteArray) : Option ((List (S67)) × Bool) := if (a0.size : Int) > 400 then (some (([] : List (S67)), false)) else (spec_ReadItems.l0 k a0 ([] : List (S67)) 0)
theorem spec_ReadItems.mono_l : ∀ k, (∀ y0 y1 y2, LeO (spec_ReadItems.l0 k y0 y1 y2) (spec_ReadItems.l0 (k + 1) y0 y1 y2)) ∧ (∀ y0 y1 y2 y3, LeO (spec_ReadItems.j1 k y0 y1 y2 y3) (spec_ReadItems.j1 (k + 1) y0 y1 y2 y3))
 | 0 => ⟨fun _ _ _ r h => by simp [spec_ReadItems.l0] at h, fun _ _ _ _ r h => by simp [spec_ReadItems.j1] at h⟩
 | k + 1 => by
  obtain ⟨ih0, ih1⟩ := spec_ReadItems.mono_l k; refine ⟨?_, ?_⟩
  ·intro y0 y1 y2; unfold spec_ReadItems.l0
   repeat' first
   | (with_reducible exact ih0 _ _ _)
   | (with_reducible exact ih1 _ _ _ _)
   | (with_reducible exact spec_GoodItems.mono _ _)
   | (with_reducible exact spec_l2Bytes.mono _ _)
   | (with_reducible exact spec_l2TakeHead.mono _ _ _)
   | (with_reducible exact LeO.refl _)
   | (with_reducible exact LeO.none _)
   | (with_reducible refine LeO.ite ?_ ?_)
   | (with_reducible refine LeO.bind ?_ (fun _ => ?_))
   | exact ih0 _ _ _
   | exact ih1 _ _ _ _
   | exact spec_GoodItems.mono _ _
   | exact spec_l2Bytes.mono _ _
   | exact spec_l2TakeHead.mono _ _ _
   | exact LeO.none _
   | refine LeO.ite ?_ ?_
   | refine LeO.bind ?_ (fun _ => ?_)
  ·intro y0 y1 y2 y3; unfold spec_ReadItems.j1
   repeat' first
   | (with_reducible exact ih0 _ _ _)
   | (with_reducible exact ih1 _ _ _ _)
   | (with_reducible exact spec_GoodItems.mono _ _)
   | (with_reducible exact spec_l2Bytes.mono _ _)
   | (with_reducible exact spec_l2TakeHead.mono _ _ _)
   | (with_reducible exact LeO.refl _)
   | (with_reducible exact LeO.none _)
   | (with_reducible refine LeO.ite ?_ ?_)
   | (with_reducible refine LeO.bind ?_ (fun _ => ?_))
   | exact ih0 _ _ _
   | exact ih1 _ _ _ _
   | exact spec_GoodItems.mono _ _
   | exact spec_l2Bytes.mono _ _
   | exact spec_l2TakeHead.mono _ _ _
   | exact LeO.none _
   | refine LeO.ite ?_ ?_
   | refine LeO.bind ?_ (fun _ => ?_)
theorem spec_ReadItems.mono : ∀ a0 k, LeO (spec_ReadItems.f k a0) (spec_ReadItems.f (k + 1) a0) := by
 intro a0 k; obtain ⟨ih0, ih1⟩ := spec_ReadItems.mono_l k; unfold spec_ReadItems.f
 repeat' first
   | (with_reducible exact ih0 _ _ _)
   | (with_reducible exact ih1 _ _ _ _)
   | (with_reducible exact spec_GoodItems.mono _ _)
   | (with_reducible exact spec_l2Bytes.mono _ _)
   | (with_reducible exact spec_l2TakeHead.mono _ _ _)
   | (with_reducible exact LeO.refl _)
   | (with_reducible exact LeO.none _)
   | (with_reducible refine LeO.ite ?_ ?_)
   | (with_reducible refine LeO.bind ?_ (fun _ => ?_))
   | exact ih0 _ _ _
   | exact ih1 _ _ _ _
   | exact spec_GoodItems.mono _ _
   | exact spec_l2Bytes.mono _ _
   | exact spec_l2TakeHead.mono _ _ _
   | exact LeO.none _
   | refine LeO.ite ?_ ?_
   | refine LeO.bind ?_ (fun _ => ?_)
set_option maxHeartbeats 8000000 in
set_option maxRecDepth 100000 in
theorem spec_ReadItems.calls (k : Nat) (a0 : ByteArray) (r1 : List (S67)) (r2 : Bool) (w : World) (h : spec_ReadItems.f k a0 = some (r1, r2)) :
  Calls Try.prog 48 #[.string a0] w fun e w' => ∃ v0_ : Value, e = .returned (.tuple #[v0_, .bool r2]) ∧ Kd.R k67 67 w' w.heap.size (fun _ => True) v0_ r1 ∧ Below w.heap.size w w' := by
 have hu67 := Try.underlying67; have HB := Aside0.mk (Below.refl w.heap.size w); have H : (if (a0.size : Int) > 400 then (some (([] : List (S67)), false)) else (spec_ReadItems.l0 k a0 ([] : List (S67)) 0)) = some (r1, r2) := h; clear h; by_cases c2 : (a0.size : Int) > 400
 ·rw [if_pos c2] at H; have c2b0 : decide (400 < (a0.size : Int)) = true := decide_eq_true c2; have c2b1 : decide (400 < a0.size) = true := decide_eq_true (by omega); clear c2; simp only [Option.some.injEq, Prod.mk.injEq] at H; obtain ⟨rfl, rfl⟩ := H
  go_enter Try.func48, Try.ntmps48
  go_wp2; go_ret2; exact ⟨_, er_, by first | exact Kd.R_nil _ _ _ _ _ | exact Kd.N_nil _ _ _ _ _ | exact Kd.V_nil _ _ _ _ _ | exact Kd.Q_nil _ _ _ _ _ | exact Kd.S_nil _ _ _ _ _, bq_ HB⟩
 ·rw [if_neg c2] at H; have c2b0 : decide (400 < (a0.size : Int)) = false := decide_eq_false c2; have c2b1 : decide (400 < a0.size) = false := decide_eq_false (by omega); clear c2; have H' := Aside0.mk H; clear H
  go_enter Try.func48, Try.ntmps48
  go_wp2
  go_loopg [4, 5] k (fun kq v4 v5 w' => ∃ (x4_1 : List (S67)) (x5_1 : Int), v5 = .int .i64 x5_1 ∧ Aside0 (spec_ReadItems.l0 kq a0 x4_1 x5_1 = some (r1, r2)) ∧ Aside0 (kq ≤ k) ∧ Aside0 (Kd.R k67 67 w' w.heap.size (fun _ => True) v4 x4_1) ∧ Aside0 (Below w.heap.size w w'))
  case atStart => exact ⟨(([] : List (S67))), (0), fs_, H', ⟨Nat.le_refl _⟩, ⟨by first | exact Kd.R_nil _ _ _ _ _ | exact Kd.N_nil _ _ _ _ _ | exact Kd.V_nil _ _ _ _ _ | exact Kd.Q_nil _ _ _ _ _ | exact Kd.S_nil _ _ _ _ _⟩, ⟨bq_ HB⟩⟩
  case round =>
   clear H'; try clear c2
   try clear c2b0
   try clear c2b1
   try clear p2
   obtain ⟨x4_1, x5_1, rfl, HA, HK1, HO_4, HB⟩ := hrel; cases gk with
   | zero => exact absurd HA.out (by simp [spec_ReadItems.l0])
   | succ k1 =>
    have H := HA.out; clear HA; simp only [spec_ReadItems.l0] at H; have HC3 := Aside0.mk H; clear H; go_upto_region 5 with (fail)
    go_cut [21] (fun v21 wc => ∃ (kq : Nat) (x21_2 : Bool), v21 = .bool x21_2 ∧ Aside0 (spec_ReadItems.j1 kq a0 x4_1 x5_1 x21_2 = some (r1, r2)) ∧ Aside0 (kq ≤ k1) ∧ Aside0 (Kd.R k67 67 wc w.heap.size (fun _ => True) u4 x4_1) ∧ Aside0 (Below w.heap.size w wc))
    case first =>
     have H := HC3.out; clear HC3; by_cases c4 : x5_1 < (a0.size : Int)
     ·rw [if_pos c4] at H; have c4b0 : decide (x5_1 < (a0.size : Int)) = true := decide_eq_true c4; clear c4; (first | rw [c4b0] | (simp only [i64_w, i32_w]; rw [c4b0]) | skip); have H' := Aside0.mk H; clear H; obtain ⟨Ao5, co5, eo5⟩ := Kd.R_slice HO_4.out; subst eo5; go_wp2; go_meet
      case rel => exact ⟨_, (decide ((x4_1.length : Int) ≤ 40)), fs_, H', ⟨by have := HK1.out; first | omega | exact Nat.le_refl _⟩, ⟨by (with_reducible repeat (first | apply Kd.R_alloc | apply Kd.R_drewN | apply Kd.R_drew)); exact HO_4.out⟩, ⟨bq_ HB⟩⟩
     ·rw [if_neg c4] at H; have c4b0 : decide (x5_1 < (a0.size : Int)) = false := decide_eq_false c4; clear c4; (first | rw [c4b0] | (simp only [i64_w, i32_w]; rw [c4b0]) | skip); have H' := Aside0.mk H; clear H; go_wp2; go_meet
      case rel => exact ⟨_, (false), fs_, H', ⟨by have := HK1.out; first | omega | exact Nat.le_refl _⟩, ⟨by (with_reducible repeat (first | apply Kd.R_alloc | apply Kd.R_drewN | apply Kd.R_drew)); exact HO_4.out⟩, ⟨bq_ HB⟩⟩
    case rest =>
     clear HC3; try clear c2
     try clear c2b0
     try clear c2b1
     try clear p2
     try clear c4
     try clear c4b0
     try clear p2
     obtain ⟨kq, x21_2, rfl, HA, HJ2, HO_4, HB⟩ := hcut; cases kq with
     | zero => exact absurd HA.out (by simp [spec_ReadItems.j1])
     | succ kj2 =>
      have H := HA.out; clear HA; simp only [spec_ReadItems.j1] at H; by_cases c6 : x21_2 = true
      ·subst c6; have H1 : ((spec_l2TakeHead.f kj2 a0 x5_1).bind fun bt419 => (if bt419.2.2.2 = true then (if bt419.1 = 0 then (if x4_1.length < 3518437208883 then (spec_ReadItems.l0 kj2 a0 (x4_1 ++ [(⟨1, bt419.2.1, (⟨#[]⟩ : ByteArray), 0⟩ : S67)]) bt419.2.2.1) else (none)) else (if bt419.1 = 4 then (if x4_1.length < 3518437208883 then (spec_ReadItems.l0 kj2 a0 (x4_1 ++ [(⟨4, 0, (⟨#[]⟩ : ByteArray), bt419.2.1⟩ : S67)]) bt419.2.2.1) else (none)) else (if bt419.1 = 2 then (if bt419.2.1 ≤ (wrap64 ((a0.size : Int) - bt419.2.2.1)) then (if 0 ≤ bt419.2.2.1 then (if bt419.2.2.1 ≤ (wrap64 (bt419.2.2.1 + bt419.2.1)) then (if (wrap64 (bt419.2.2.1 + bt419.2.1)) ≤ (a0.size : Int) then (if x4_1.length < 3518437208883 then (spec_ReadItems.l0 kj2 a0 (x4_1 ++ [(⟨wrap64 ((wrap64 (2 + bt419.1)) - 2), 0, a0.extract (bt419.2.2.1 : Int).toNat ((wrap64 (bt419.2.2.1 + bt419.2.1)) : Int).toNat, 0⟩ : S67)]) (wrap64 (bt419.2.2.1 + bt419.2.1))) else (none)) else (none)) else (none)) else (none)) else (some (([] : List (S67)), false))) else (if bt419.1 = 3 then (if bt419.2.1 ≤ (wrap64 ((a0.size : Int) - bt419.2.2.1)) then (if 0 ≤ bt419.2.2.1 then (if bt419.2.2.1 ≤ (wrap64 (bt419.2.2.1 + bt419.2.1)) then (if (wrap64 (bt419.2.2.1 + bt419.2.1)) ≤ (a0.size : Int) then (if x4_1.length < 3518437208883 then (spec_ReadItems.l0 kj2 a0 (x4_1 ++ [(⟨wrap64 ((wrap64 (2 + bt419.1)) - 2), 0, a0.extract (bt419.2.2.1 : Int).toNat ((wrap64 (bt419.2.2.1 + bt419.2.1)) : Int).toNat, 0⟩ : S67)]) (wrap64 (bt419.2.2.1 + bt419.2.1))) else (none)) else (none)) else (none)) else (none)) else (some (([] : List (S67)), false))) else (some (([] : List (S67)), false)))))) else (some (([] : List (S67)), false)))) = some (r1, r2) := by rw [if_pos rfl] at H; exact H
       clear H; have H := H1; clear H1; replace H := Option.bind_eq_some_iff.mp H; obtain ⟨⟨t419, t420, t421, t422⟩, A70, H⟩ := H; replace H : (if t422 = true then (if t419 = 0 then (if x4_1.length < 3518437208883 then (spec_ReadItems.l0 kj2 a0 (x4_1 ++ [(⟨1, t420, (⟨#[]⟩ : ByteArray), 0⟩ : S67)]) t421) else (none)) else (if t419 = 4 then (if x4_1.length < 3518437208883 then (spec_ReadItems.l0 kj2 a0 (x4_1 ++ [(⟨4, 0, (⟨#[]⟩ : ByteArray), t420⟩ : S67)]) t421) else (none)) else (if t419 = 2 then (if t420 ≤ (wrap64 ((a0.size : Int) - t421)) then (if 0 ≤ t421 then (if t421 ≤ (wrap64 (t421 + t420)) then (if (wrap64 (t421 + t420)) ≤ (a0.size : Int) then (if x4_1.length < 3518437208883 then (spec_ReadItems.l0 kj2 a0 (x4_1 ++ [(⟨wrap64 ((wrap64 (2 + t419)) - 2), 0, a0.extract (t421 : Int).toNat ((wrap64 (t421 + t420)) : Int).toNat, 0⟩ : S67)]) (wrap64 (t421 + t420))) else (none)) else (none)) else (none)) else (none)) else (some (([] : List (S67)), false))) else (if t419 = 3 then (if t420 ≤ (wrap64 ((a0.size : Int) - t421)) then (if 0 ≤ t421 then (if t421 ≤ (wrap64 (t421 + t420)) then (if (wrap64 (t421 + t420)) ≤ (a0.size : Int) then (if x4_1.length < 3518437208883 then (spec_ReadItems.l0 kj2 a0 (x4_1 ++ [(⟨wrap64 ((wrap64 (2 + t419)) - 2), 0, a0.extract (t421 : Int).toNat ((wrap64 (t421 + t420)) : Int).toNat, 0⟩ : S67)]) (wrap64 (t421 + t420))) else (none)) else (none)) else (none)) else (none)) else (some (([] : List (S67)), false))) else (some (([] : List (S67)), false)))))) else (some (([] : List (S67)), false))) = some (r1, r2) := H; have A7 := Aside0.mk A70; clear A70; by_cases c8 : t422 = true
       ·subst c8; have H1 : (if t419 = 0 then (if x4_1.length < 3518437208883 then (spec_ReadItems.l0 kj2 a0 (x4_1 ++ [(⟨1, t420, (⟨#[]⟩ : ByteArray), 0⟩ : S67)]) t421) else (none)) else (if t419 = 4 then (if x4_1.length < 3518437208883 then (spec_ReadItems.l0 kj2 a0 (x4_1 ++ [(⟨4, 0, (⟨#[]⟩ : ByteArray), t420⟩ : S67)]) t421) else (none)) else (if t419 = 2 then (if t420 ≤ (wrap64 ((a0.size : Int) - t421)) then (if 0 ≤ t421 then (if t421 ≤ (wrap64 (t421 + t420)) then (if (wrap64 (t421 + t420)) ≤ (a0.size : Int) then (if x4_1.length < 3518437208883 then (spec_ReadItems.l0 kj2 a0 (x4_1 ++ [(⟨wrap64 ((wrap64 (2 + t419)) - 2), 0, a0.extract (t421 : Int).toNat ((wrap64 (t421 + t420)) : Int).toNat, 0⟩ : S67)]) (wrap64 (t421 + t420))) else (none)) else (none)) else (none)) else (none)) else (some (([] : List (S67)), false))) else (if t419 = 3 then (if t420 ≤ (wrap64 ((a0.size : Int) - t421)) then (if 0 ≤ t421 then (if t421 ≤ (wrap64 (t421 + t420)) then (if (wrap64 (t421 + t420)) ≤ (a0.size : Int) then (if x4_1.length < 3518437208883 then (spec_ReadItems.l0 kj2 a0 (x4_1 ++ [(⟨wrap64 ((wrap64 (2 + t419)) - 2), 0, a0.extract (t421 : Int).toNat ((wrap64 (t421 + t420)) : Int).toNat, 0⟩ : S67)]) (wrap64 (t421 + t420))) else (none)) else (none)) else (none)) else (none)) else (some (([] : List (S67)), false))) else (some (([] : List (S67)), false)))))) = some (r1, r2) := by rw [if_pos rfl] at H; exact H
        clear H; have H := H1; clear H1; by_cases c9 : t419 = 0
        ·rw [if_pos c9] at H; have c9b0 : (t419 == 0) = true := beq_iff_eq.mpr c9; have c9b1 : (t419 != 0) = false := bne_eq_false_iff_eq.mpr c9; clear c9; by_cases c10 : x4_1.length < 3518437208883
         ·rw [if_pos c10] at H; have LMc10 := Aside0.mk c10; clear c10; obtain ⟨y423, hy423⟩ : ∃ y_ : List (S67), y_ = (x4_1 ++ [(⟨1, t420, (⟨#[]⟩ : ByteArray), 0⟩ : S67)]) := ⟨_, rfl⟩
          replace H : (spec_ReadItems.l0 kj2 a0 y423 t421) = some (r1, r2) := by first | (rw [hy423]; with_reducible exact H) | (have H2_ := (Option.bind_some _ _).symm.trans H; rw [hy423]; with_reducible exact H2_) | (have H2_ := (Option.bind_some _ _).symm.trans H; with_reducible exact H2_) | with_reducible exact H | (rw [hy423]; exact H) | exact H
          have Ny423 := Aside0.mk hy423; clear hy423; have H' := Aside0.mk H; clear H; go_wp2_with (first | ((with_reducible refine gate_callee (f := 70) rfl ?_); refine goesL_ (some 25) rfl rfl Try.func70 (by kernel_rfl) rfl #[.string a0, .int .i64 x5_1] rfl ma_ ?_; (with_reducible refine (spec_l2TakeHead.calls kj2 a0 x5_1 t419 t420 t421 true _ A7.out).mono ?_); rintro e w11 ⟨rfl, hb⟩; refine ⟨_, rfl, ?_⟩; have n0_ := Aside0.mk (Kd.R_below (by (with_reducible repeat (first | apply Kd.R_alloc | apply Kd.R_drewN | apply Kd.R_drew)); exact HO_4.out) hb); have n1_ := Aside0.mk (bs_ hb); clear HO_4; clear HB; have HO_4 := n0_; have HB := n1_; clear n0_ n1_; (try clear hb); (try clear hb2); (try clear hk); (try clear hi)) | ((with_reducible refine gate_builtin (b := .append) (xs := #[.tmp 36, .tmp 39]) rfl ?_); (try (refine gate_guard (by rfl) ?_; dsimp only)); at_builtin; refine Kd.R_append k67 (w0 := w) w.heap.size rfl (.tmp 36) (.tmp 39) 68 67 (.agg #[(.int .i64 0), (.int .i64 0), (.string ⟨#[]⟩), (.int .i64 0)]) 40 rfl Try.underlying68 info67 rfl (by decide) (by omega) u4 x4_1 (⟨1, t420, (⟨#[]⟩ : ByteArray), 0⟩ : S67) [.int .i64 1, .int .i64 t420, .string (⟨#[]⟩ : ByteArray), .int .i64 0] (fun _ => True) (fun _ => False) rfl rfl ?aP (fun _ hk => hk.elim) ?aF ?aO ?aB ?aS ?aL ?_; (case aP => exact k67_mkM _ _ _ (⟨1, t420, (⟨#[]⟩ : ByteArray), 0⟩ : S67)); (case aB => exact (bq_ HB)); (case aF => exact (fun _ _ => trivial)); (case aO => exact (by (with_reducible repeat (first | apply Kd.R_alloc | apply Kd.R_drewN | apply Kd.R_drew)); exact HO_4.out)); (case aS => exact bz_); (case aL => have := LMc10.out; omega); intro v424 w12 ho hb hg hat; rw [← Ny423.out] at ho; have n0_ := Aside0.mk (hb); have n1_ := Aside0.mk (ho); clear HB; clear HO_4; have HB := n0_; have HO425 := n1_; clear n0_ n1_; clear ho hb hg hat)); go_roundg kj2
          case measure => have := HK1.out; have := HJ2.out; omega
          case rel => exact ⟨(y423), (t421), fs_, H', ⟨by have := HK1.out; have := HJ2.out; omega⟩, ⟨by (with_reducible repeat (first | apply Kd.R_alloc | apply Kd.R_drewN | apply Kd.R_drew)); exact HO425.out⟩, ⟨bq_ HB⟩⟩
         ·rw [if_neg c10] at H; exact no_ H
        ·rw [if_neg c9] at H; have c9b0 : (t419 == 0) = false := beq_eq_false_iff_ne.mpr c9; have c9b1 : (t419 != 0) = true := bne_iff_ne.mpr c9; by_cases c13 : t419 = 4
         ·rw [if_pos c13] at H; have c13b0 : (t419 == 4) = true := beq_iff_eq.mpr c13; have c13b1 : (t419 != 4) = false := bne_eq_false_iff_eq.mpr c13; clear c13; by_cases c14 : x4_1.length < 3518437208883
          ·rw [if_pos c14] at H; have LMc14 := Aside0.mk c14; clear c14; obtain ⟨y426, hy426⟩ : ∃ y_ : List (S67), y_ = (x4_1 ++ [(⟨4, 0, (⟨#[]⟩ : ByteArray), t420⟩ : S67)]) := ⟨_, rfl⟩
           replace H : (spec_ReadItems.l0 kj2 a0 y426 t421) = some (r1, r2) := by first | (rw [hy426]; with_reducible exact H) | (have H2_ := (Option.bind_some _ _).symm.trans H; rw [hy426]; with_reducible exact H2_) | (have H2_ := (Option.bind_some _ _).symm.trans H; with_reducible exact H2_) | with_reducible exact H | (rw [hy426]; exact H) | exact H
           have Ny426 := Aside0.mk hy426; clear hy426; have H' := Aside0.mk H; clear H; go_wp2_with (first | ((with_reducible refine gate_callee (f := 70) rfl ?_); refine goesL_ (some 25) rfl rfl Try.func70 (by kernel_rfl) rfl #[.string a0, .int .i64 x5_1] rfl ma_ ?_; (with_reducible refine (spec_l2TakeHead.calls kj2 a0 x5_1 t419 t420 t421 true _ A7.out).mono ?_); rintro e w15 ⟨rfl, hb⟩; refine ⟨_, rfl, ?_⟩; have n0_ := Aside0.mk (Kd.R_below (by (with_reducible repeat (first | apply Kd.R_alloc | apply Kd.R_drewN | apply Kd.R_drew)); exact HO_4.out) hb); have n1_ := Aside0.mk (bs_ hb); clear HO_4; clear HB; have HO_4 := n0_; have HB := n1_; clear n0_ n1_; (try clear hb); (try clear hb2); (try clear hk); (try clear hi)) | ((with_reducible refine gate_builtin (b := .append) (xs := #[.tmp 44, .tmp 47]) rfl ?_); (try (refine gate_guard (by rfl) ?_; dsimp only)); at_builtin; refine Kd.R_append k67 (w0 := w) w.heap.size rfl (.tmp 44) (.tmp 47) 68 67 (.agg #[(.int .i64 0), (.int .i64 0), (.string ⟨#[]⟩), (.int .i64 0)]) 40 rfl Try.underlying68 info67 rfl (by decide) (by omega) u4 x4_1 (⟨4, 0, (⟨#[]⟩ : ByteArray), t420⟩ : S67) [.int .i64 4, .int .i64 0, .string (⟨#[]⟩ : ByteArray), .int .i64 t420] (fun _ => True) (fun _ => False) rfl rfl ?aP (fun _ hk => hk.elim) ?aF ?aO ?aB ?aS ?aL ?_; (case aP => exact k67_mkM _ _ _ (⟨4, 0, (⟨#[]⟩ : ByteArray), t420⟩ : S67)); (case aB => exact (bq_ HB)); (case aF => exact (fun _ _ => trivial)); (case aO => exact (by (with_reducible repeat (first | apply Kd.R_alloc | apply Kd.R_drewN | apply Kd.R_drew)); exact HO_4.out)); (case aS => exact bz_); (case aL => have := LMc14.out; omega); intro v427 w16 ho hb hg hat; rw [← Ny426.out] at ho; have n0_ := Aside0.mk (hb); have n1_ := Aside0.mk (ho); clear HB; clear HO_4; have HB := n0_; have HO428 := n1_; clear n0_ n1_; clear ho hb hg hat)); go_roundg kj2
           case measure => have := HK1.out; have := HJ2.out; omega
           case rel => exact ⟨(y426), (t421), fs_, H', ⟨by have := HK1.out; have := HJ2.out; omega⟩, ⟨by (with_reducible repeat (first | apply Kd.R_alloc | apply Kd.R_drewN | apply Kd.R_drew)); exact HO428.out⟩, ⟨bq_ HB⟩⟩
          ·rw [if_neg c14] at H; exact no_ H
         ·rw [if_neg c13] at H; have c13b0 : (t419 == 4) = false := beq_eq_false_iff_ne.mpr c13; have c13b1 : (t419 != 4) = true := bne_iff_ne.mpr c13; by_cases c17 : t419 = 2
          ·rw [if_pos c17] at H; have c17b0 : (t419 == 2) = true := beq_iff_eq.mpr c17; have c17b1 : (t419 != 2) = false := bne_eq_false_iff_eq.mpr c17; clear c17; by_cases c18 : t420 ≤ (wrap64 ((a0.size : Int) - t421))
           ·rw [if_pos c18] at H; have c18b0 : decide (t420 ≤ (wrap64 ((a0.size : Int) - t421))) = true := decide_eq_true c18; clear c18; by_cases c19 : 0 ≤ t421
            ·rw [if_pos c19] at H; have c19b0 := eq_true c19; have c19b1 : decide (0 ≤ t421) = true := decide_eq_true c19; clear c19; by_cases c20 : t421 ≤ (wrap64 (t421 + t420))
             ·rw [if_pos c20] at H; have c20b0 := eq_true c20; have c20b1 : decide (t421 ≤ (wrap64 (t421 + t420))) = true := decide_eq_true c20; by_cases c21 : (wrap64 (t421 + t420)) ≤ (a0.size : Int)
              ·rw [if_pos c21] at H; have c21b0 := eq_true c21; have c21b1 : decide ((wrap64 (t421 + t420)) ≤ (a0.size : Int)) = true := decide_eq_true c21; by_cases c22 : x4_1.length < 3518437208883
               ·rw [if_pos c22] at H; have LMc22 := Aside0.mk c22; clear c22; obtain ⟨y429, hy429⟩ : ∃ y_ : List (S67), y_ = (x4_1 ++ [(⟨wrap64 ((wrap64 (2 + t419)) - 2), 0, a0.extract (t421 : Int).toNat ((wrap64 (t421 + t420)) : Int).toNat, 0⟩ : S67)]) := ⟨_, rfl⟩
                replace H : (spec_ReadItems.l0 kj2 a0 y429 (wrap64 (t421 + t420))) = some (r1, r2) := by first | (rw [hy429]; with_reducible exact H) | (have H2_ := (Option.bind_some _ _).symm.trans H; rw [hy429]; with_reducible exact H2_) | (have H2_ := (Option.bind_some _ _).symm.trans H; with_reducible exact H2_) | with_reducible exact H | (rw [hy429]; exact H) | exact H
                have Ny429 := Aside0.mk hy429; clear hy429; have H' := Aside0.mk H; clear H; go_wp2_with (first | ((with_reducible refine gate_callee (f := 70) rfl ?_); refine goesL_ (some 25) rfl rfl Try.func70 (by kernel_rfl) rfl #[.string a0, .int .i64 x5_1] rfl ma_ ?_; (with_reducible refine (spec_l2TakeHead.calls kj2 a0 x5_1 t419 t420 t421 true _ A7.out).mono ?_); rintro e w23 ⟨rfl, hb⟩; refine ⟨_, rfl, ?_⟩; have n0_ := Aside0.mk (Kd.R_below (by (with_reducible repeat (first | apply Kd.R_alloc | apply Kd.R_drewN | apply Kd.R_drew)); exact HO_4.out) hb); have n1_ := Aside0.mk (bs_ hb); clear HO_4; clear HB; have HO_4 := n0_; have HB := n1_; clear n0_ n1_; (try clear hb); (try clear hb2); (try clear hk); (try clear hi)) | ((with_reducible refine gate_builtin (b := .append) (xs := #[.tmp 64, .tmp 75]) rfl ?_); (try (refine gate_guard (by rfl) ?_; dsimp only)); at_builtin; refine Kd.R_append k67 (w0 := w) w.heap.size rfl (.tmp 64) (.tmp 75) 68 67 (.agg #[(.int .i64 0), (.int .i64 0), (.string ⟨#[]⟩), (.int .i64 0)]) 40 rfl Try.underlying68 info67 rfl (by decide) (by omega) u4 x4_1 (⟨wrap64 ((wrap64 (2 + t419)) - 2), 0, a0.extract (t421 : Int).toNat ((wrap64 (t421 + t420)) : Int).toNat, 0⟩ : S67) [.int .i64 (wrap64 ((wrap64 (2 + t419)) - 2)), .int .i64 0, .string (a0.extract (t421 : Int).toNat ((wrap64 (t421 + t420)) : Int).toNat), .int .i64 0] (fun _ => True) (fun _ => False) rfl rfl ?aP (fun _ hk => hk.elim) ?aF ?aO ?aB ?aS ?aL ?_; (case aP => exact k67_mkM _ _ _ (⟨wrap64 ((wrap64 (2 + t419)) - 2), 0, a0.extract (t421 : Int).toNat ((wrap64 (t421 + t420)) : Int).toNat, 0⟩ : S67)); (case aB => exact (bq_ HB)); (case aF => exact (fun _ _ => trivial)); (case aO => exact (by (with_reducible repeat (first | apply Kd.R_alloc | apply Kd.R_drewN | apply Kd.R_drew)); exact HO_4.out)); (case aS => exact bz_); (case aL => have := LMc22.out; omega); intro v430 w24 ho hb hg hat; rw [← Ny429.out] at ho; have n0_ := Aside0.mk (hb); have n1_ := Aside0.mk (ho); clear HB; clear HO_4; have HB := n0_; have HO431 := n1_; clear n0_ n1_; clear ho hb hg hat)); go_roundg kj2
                case measure => have := HK1.out; have := HJ2.out; omega
                case rel => exact ⟨(y429), (wrap64 (t421 + t420)), fs_, H', ⟨by have := HK1.out; have := HJ2.out; omega⟩, ⟨by (with_reducible repeat (first | apply Kd.R_alloc | apply Kd.R_drewN | apply Kd.R_drew)); exact HO431.out⟩, ⟨bq_ HB⟩⟩
               ·rw [if_neg c22] at H; exact no_ H
              ·rw [if_neg c21] at H; exact no_ H
             ·rw [if_neg c20] at H; exact no_ H
            ·rw [if_neg c19] at H; exact no_ H
           ·rw [if_neg c18] at H; have c18b0 : decide (t420 ≤ (wrap64 ((a0.size : Int) - t421))) = false := decide_eq_false c18; clear c18; simp only [Option.some.injEq, Prod.mk.injEq] at H; obtain ⟨rfl, rfl⟩ := H; go_wp2_with (first | ((with_reducible refine gate_callee (f := 70) rfl ?_); refine goesL_ (some 25) rfl rfl Try.func70 (by kernel_rfl) rfl #[.string a0, .int .i64 x5_1] rfl ma_ ?_; (with_reducible refine (spec_l2TakeHead.calls kj2 a0 x5_1 t419 t420 t421 true _ A7.out).mono ?_); rintro e w25 ⟨rfl, hb⟩; refine ⟨_, rfl, ?_⟩; have n0_ := Aside0.mk (Kd.R_below (by (with_reducible repeat (first | apply Kd.R_alloc | apply Kd.R_drewN | apply Kd.R_drew)); exact HO_4.out) hb); have n1_ := Aside0.mk (bs_ hb); clear HO_4; clear HB; have HO_4 := n0_; have HB := n1_; clear n0_ n1_; (try clear hb); (try clear hb2); (try clear hk); (try clear hi))); go_ret2; exact ⟨_, er_, by first | exact Kd.R_nil _ _ _ _ _ | exact Kd.N_nil _ _ _ _ _ | exact Kd.V_nil _ _ _ _ _ | exact Kd.Q_nil _ _ _ _ _ | exact Kd.S_nil _ _ _ _ _, bq_ HB⟩
          ·rw [if_neg c17] at H; have c17b0 : (t419 == 2) = false := beq_eq_false_iff_ne.mpr c17; have c17b1 : (t419 != 2) = true := bne_iff_ne.mpr c17; by_cases c26 : t419 = 3
           ·rw [if_pos c26] at H; have c26b0 : (t419 == 3) = true := beq_iff_eq.mpr c26; have c26b1 : (t419 != 3) = false := bne_eq_false_iff_eq.mpr c26; clear c26; by_cases c27 : t420 ≤ (wrap64 ((a0.size : Int) - t421))
            ·rw [if_pos c27] at H; have c27b0 : decide (t420 ≤ (wrap64 ((a0.size : Int) - t421))) = true := decide_eq_true c27; clear c27; by_cases c28 : 0 ≤ t421
             ·rw [if_pos c28] at H; have c28b0 := eq_true c28; have c28b1 : decide (0 ≤ t421) = true := decide_eq_true c28; clear c28; by_cases c29 : t421 ≤ (wrap64 (t421 + t420))
              ·rw [if_pos c29] at H; have c29b0 := eq_true c29; have c29b1 : decide (t421 ≤ (wrap64 (t421 + t420))) = true := decide_eq_true c29; by_cases c30 : (wrap64 (t421 + t420)) ≤ (a0.size : Int)
               ·rw [if_pos c30] at H; have c30b0 := eq_true c30; have c30b1 : decide ((wrap64 (t421 + t420)) ≤ (a0.size : Int)) = true := decide_eq_true c30; by_cases c31 : x4_1.length < 3518437208883
                ·rw [if_pos c31] at H; have LMc31 := Aside0.mk c31; clear c31; obtain ⟨y432, hy432⟩ : ∃ y_ : List (S67), y_ = (x4_1 ++ [(⟨wrap64 ((wrap64 (2 + t419)) - 2), 0, a0.extract (t421 : Int).toNat ((wrap64 (t421 + t420)) : Int).toNat, 0⟩ : S67)]) := ⟨_, rfl⟩
                 replace H : (spec_ReadItems.l0 kj2 a0 y432 (wrap64 (t421 + t420))) = some (r1, r2) := by first | (rw [hy432]; with_reducible exact H) | (have H2_ := (Option.bind_some _ _).symm.trans H; rw [hy432]; with_reducible exact H2_) | (have H2_ := (Option.bind_some _ _).symm.trans H; with_reducible exact H2_) | with_reducible exact H | (rw [hy432]; exact H) | exact H
                 have Ny432 := Aside0.mk hy432; clear hy432; have H' := Aside0.mk H; clear H; go_wp2_with (first | ((with_reducible refine gate_callee (f := 70) rfl ?_); refine goesL_ (some 25) rfl rfl Try.func70 (by kernel_rfl) rfl #[.string a0, .int .i64 x5_1] rfl ma_ ?_; (with_reducible refine (spec_l2TakeHead.calls kj2 a0 x5_1 t419 t420 t421 true _ A7.out).mono ?_); rintro e w32 ⟨rfl, hb⟩; refine ⟨_, rfl, ?_⟩; have n0_ := Aside0.mk (Kd.R_below (by (with_reducible repeat (first | apply Kd.R_alloc | apply Kd.R_drewN | apply Kd.R_drew)); exact HO_4.out) hb); have n1_ := Aside0.mk (bs_ hb); clear HO_4; clear HB; have HO_4 := n0_; have HB := n1_; clear n0_ n1_; (try clear hb); (try clear hb2); (try clear hk); (try clear hi)) | ((with_reducible refine gate_builtin (b := .append) (xs := #[.tmp 64, .tmp 75]) rfl ?_); (try (refine gate_guard (by rfl) ?_; dsimp only)); at_builtin; refine Kd.R_append k67 (w0 := w) w.heap.size rfl (.tmp 64) (.tmp 75) 68 67 (.agg #[(.int .i64 0), (.int .i64 0), (.string ⟨#[]⟩), (.int .i64 0)]) 40 rfl Try.underlying68 info67 rfl (by decide) (by omega) u4 x4_1 (⟨wrap64 ((wrap64 (2 + t419)) - 2), 0, a0.extract (t421 : Int).toNat ((wrap64 (t421 + t420)) : Int).toNat, 0⟩ : S67) [.int .i64 (wrap64 ((wrap64 (2 + t419)) - 2)), .int .i64 0, .string (a0.extract (t421 : Int).toNat ((wrap64 (t421 + t420)) : Int).toNat), .int .i64 0] (fun _ => True) (fun _ => False) rfl rfl ?aP (fun _ hk => hk.elim) ?aF ?aO ?aB ?aS ?aL ?_; (case aP => exact k67_mkM _ _ _ (⟨wrap64 ((wrap64 (2 + t419)) - 2), 0, a0.extract (t421 : Int).toNat ((wrap64 (t421 + t420)) : Int).toNat, 0⟩ : S67)); (case aB => exact (bq_ HB)); (case aF => exact (fun _ _ => trivial)); (case aO => exact (by (with_reducible repeat (first | apply Kd.R_alloc | apply Kd.R_drewN | apply Kd.R_drew)); exact HO_4.out)); (case aS => exact bz_); (case aL => have := LMc31.out; omega); intro v433 w33 ho hb hg hat; rw [← Ny432.out] at ho; have n0_ := Aside0.mk (hb); have n1_ := Aside0.mk (ho); clear HB; clear HO_4; have HB := n0_; have HO434 := n1_; clear n0_ n1_; clear ho hb hg hat)); go_roundg kj2
                 case measure => have := HK1.out; have := HJ2.out; omega
                 case rel => exact ⟨(y432), (wrap64 (t421 + t420)), fs_, H', ⟨by have := HK1.out; have := HJ2.out; omega⟩, ⟨by (with_reducible repeat (first | apply Kd.R_alloc | apply Kd.R_drewN | apply Kd.R_drew)); exact HO434.out⟩, ⟨bq_ HB⟩⟩
                ·rw [if_neg c31] at H; exact no_ H
               ·rw [if_neg c30] at H; exact no_ H
              ·rw [if_neg c29] at H; exact no_ H
             ·rw [if_neg c28] at H; exact no_ H
            ·rw [if_neg c27] at H; have c27b0 : decide (t420 ≤ (wrap64 ((a0.size : Int) - t421))) = false := decide_eq_false c27; clear c27; simp only [Option.some.injEq, Prod.mk.injEq] at H; obtain ⟨rfl, rfl⟩ := H; go_wp2_with (first | ((with_reducible refine gate_callee (f := 70) rfl ?_); refine goesL_ (some 25) rfl rfl Try.func70 (by kernel_rfl) rfl #[.string a0, .int .i64 x5_1] rfl ma_ ?_; (with_reducible refine (spec_l2TakeHead.calls kj2 a0 x5_1 t419 t420 t421 true _ A7.out).mono ?_); rintro e w34 ⟨rfl, hb⟩; refine ⟨_, rfl, ?_⟩; have n0_ := Aside0.mk (Kd.R_below (by (with_reducible repeat (first | apply Kd.R_alloc | apply Kd.R_drewN | apply Kd.R_drew)); exact HO_4.out) hb); have n1_ := Aside0.mk (bs_ hb); clear HO_4; clear HB; have HO_4 := n0_; have HB := n1_; clear n0_ n1_; (try clear hb); (try clear hb2); (try clear hk); (try clear hi))); go_ret2; exact ⟨_, er_, by first | exact Kd.R_nil _ _ _ _ _ | exact Kd.N_nil _ _ _ _ _ | exact Kd.V_nil _ _ _ _ _ | exact Kd.Q_nil _ _ _ _ _ | exact Kd.S_nil _ _ _ _ _, bq_ HB⟩
           ·rw [if_neg c26] at H; have c26b0 : (t419 == 3) = false := beq_eq_false_iff_ne.mpr c26; have c26b1 : (t419 != 3) = true := bne_iff_ne.mpr c26; simp only [Option.some.injEq, Prod.mk.injEq] at H; obtain ⟨rfl, rfl⟩ := H; go_wp2_with (first | ((with_reducible refine gate_callee (f := 70) rfl ?_); refine goesL_ (some 25) rfl rfl Try.func70 (by kernel_rfl) rfl #[.string a0, .int .i64 x5_1] rfl ma_ ?_; (with_reducible refine (spec_l2TakeHead.calls kj2 a0 x5_1 t419 t420 t421 true _ A7.out).mono ?_); rintro e w35 ⟨rfl, hb⟩; refine ⟨_, rfl, ?_⟩; have n0_ := Aside0.mk (Kd.R_below (by (with_reducible repeat (first | apply Kd.R_alloc | apply Kd.R_drewN | apply Kd.R_drew)); exact HO_4.out) hb); have n1_ := Aside0.mk (bs_ hb); clear HO_4; clear HB; have HO_4 := n0_; have HB := n1_; clear n0_ n1_; (try clear hb); (try clear hb2); (try clear hk); (try clear hi))); go_ret2; exact ⟨_, er_, by first | exact Kd.R_nil _ _ _ _ _ | exact Kd.N_nil _ _ _ _ _ | exact Kd.V_nil _ _ _ _ _ | exact Kd.Q_nil _ _ _ _ _ | exact Kd.S_nil _ _ _ _ _, bq_ HB⟩
       ·replace c8 := Bool.eq_false_iff.mpr c8; subst c8; have H1 : (some (([] : List (S67)), false)) = some (r1, r2) := by rw [if_neg (show ¬ (false = true) by decide)] at H; exact H
        clear H; have H := H1; clear H1; simp only [Option.some.injEq, Prod.mk.injEq] at H; obtain ⟨rfl, rfl⟩ := H; go_wp2_with (first | ((with_reducible refine gate_callee (f := 70) rfl ?_); refine goesL_ (some 25) rfl rfl Try.func70 (by kernel_rfl) rfl #[.string a0, .int .i64 x5_1] rfl ma_ ?_; (with_reducible refine (spec_l2TakeHead.calls kj2 a0 x5_1 t419 t420 t421 false _ A7.out).mono ?_); rintro e w36 ⟨rfl, hb⟩; refine ⟨_, rfl, ?_⟩; have n0_ := Aside0.mk (Kd.R_below (by (with_reducible repeat (first | apply Kd.R_alloc | apply Kd.R_drewN | apply Kd.R_drew)); exact HO_4.out) hb); have n1_ := Aside0.mk (bs_ hb); clear HO_4; clear HB; have HO_4 := n0_; have HB := n1_; clear n0_ n1_; (try clear hb); (try clear hb2); (try clear hk); (try clear hi))); go_ret2; exact ⟨_, er_, by first | exact Kd.R_nil _ _ _ _ _ | exact Kd.N_nil _ _ _ _ _ | exact Kd.V_nil _ _ _ _ _ | exact Kd.Q_nil _ _ _ _ _ | exact Kd.S_nil _ _ _ _ _, bq_ HB⟩
      ·replace c6 := Bool.eq_false_iff.mpr c6; subst c6; have H1 : ((spec_GoodItems.f kj2 x4_1).bind fun t435 => (if t435 = true then ((spec_l2Bytes.f kj2 x4_1).bind fun t436 => (if t436.toList = a0.toList then (some (x4_1, true)) else (some (([] : List (S67)), false)))) else (some (([] : List (S67)), false)))) = some (r1, r2) := by rw [if_neg (show ¬ (false = true) by decide)] at H; exact H
       clear H; have H := H1; clear H1; replace H := Option.bind_eq_some_iff.mp H; obtain ⟨t435, A370, H⟩ := H; replace H : (if t435 = true then ((spec_l2Bytes.f kj2 x4_1).bind fun t436 => (if t436.toList = a0.toList then (some (x4_1, true)) else (some (([] : List (S67)), false)))) else (some (([] : List (S67)), false))) = some (r1, r2) := H; have A37 := Aside0.mk A370; clear A370; by_cases c38 : t435 = true
       ·subst c38; have H1 : ((spec_l2Bytes.f kj2 x4_1).bind fun t436 => (if t436.toList = a0.toList then (some (x4_1, true)) else (some (([] : List (S67)), false)))) = some (r1, r2) := by rw [if_pos rfl] at H; exact H
        clear H; have H := H1; clear H1; replace H := Option.bind_eq_some_iff.mp H; obtain ⟨t436, A390, H⟩ := H; replace H : (if t436.toList = a0.toList then (some (x4_1, true)) else (some (([] : List (S67)), false))) = some (r1, r2) := H; have A39 := Aside0.mk A390; clear A390; by_cases c40 : t436.toList = a0.toList
        ·rw [if_pos c40] at H; have c40b0 : (t436.toList == a0.toList) = true := beq_iff_eq.mpr c40; have c40b1 : (t436.toList != a0.toList) = false := bne_eq_false_iff_eq.mpr c40; clear c40; simp only [Option.some.injEq, Prod.mk.injEq] at H; obtain ⟨rfl, rfl⟩ := H; obtain ⟨Ao41, co41, eo41⟩ := Kd.R_slice HO_4.out; subst eo41; go_wp2_with (first | ((with_reducible refine gate_callee (f := 71) rfl ?_); refine goesL_ (some 81) rfl rfl Try.func71 (by kernel_rfl) rfl #[.slice Ao41 x4_1.length co41] rfl ma_ ?_; (with_reducible refine (spec_GoodItems.calls kj2 _ _ x4_1 true _ ?side1 ?side2 A37.out).mono ?_); (case side1 => repeat (first | exact (Kd.R_reads' HO_4.out).2.2 | with_reducible first | refine Kd.C_alloc ?_ _ | refine Kd.C_drewN ?_ _ | refine Kd.C_drew ?_)); (case side2 => exact (Kd.R_reads' HO_4.out).2.1); rintro e w42 ⟨rfl, hb⟩; refine ⟨_, rfl, ?_⟩; have n0_ := Aside0.mk (Kd.R_below (by (with_reducible repeat (first | apply Kd.R_alloc | apply Kd.R_drewN | apply Kd.R_drew)); exact HO_4.out) hb); have n1_ := Aside0.mk (bs_ hb); clear HO_4; clear HB; have HO_4 := n0_; have HB := n1_; clear n0_ n1_; (try clear hb); (try clear hb2); (try clear hk); (try clear hi)) | (go_at_call 65; (with_reducible refine (spec_l2Bytes.calls kj2 _ _ x4_1 t436 _ ?side1 ?side2 A39.out).mono ?_); (case side1 => repeat (first | exact (Kd.R_reads' HO_4.out).2.2 | with_reducible first | refine Kd.C_alloc ?_ _ | refine Kd.C_drewN ?_ _ | refine Kd.C_drew ?_)); (case side2 => exact (Kd.R_reads' HO_4.out).2.1); rintro e w43 ⟨rfl, hb⟩; have n0_ := Aside0.mk (Kd.R_below (by (with_reducible repeat (first | apply Kd.R_alloc | apply Kd.R_drewN | apply Kd.R_drew)); exact HO_4.out) hb); have n1_ := Aside0.mk (bs_ hb); clear HO_4; clear HB; have HO_4 := n0_; have HB := n1_; clear n0_ n1_; (try clear hb); (try clear hb2); (try clear hk); (try clear hi))); go_ret2; exact ⟨_, er_, by (with_reducible repeat (first | apply Kd.R_alloc | apply Kd.R_drewN | apply Kd.R_drew)); exact HO_4.out, bq_ HB⟩
        ·rw [if_neg c40] at H; have c40b0 : (t436.toList == a0.toList) = false := beq_eq_false_iff_ne.mpr c40; have c40b1 : (t436.toList != a0.toList) = true := bne_iff_ne.mpr c40; simp only [Option.some.injEq, Prod.mk.injEq] at H; obtain ⟨rfl, rfl⟩ := H; obtain ⟨Ao44, co44, eo44⟩ := Kd.R_slice HO_4.out; subst eo44; go_wp2_with (first | ((with_reducible refine gate_callee (f := 71) rfl ?_); refine goesL_ (some 81) rfl rfl Try.func71 (by kernel_rfl) rfl #[.slice Ao44 x4_1.length co44] rfl ma_ ?_; (with_reducible refine (spec_GoodItems.calls kj2 _ _ x4_1 true _ ?side1 ?side2 A37.out).mono ?_); (case side1 => repeat (first | exact (Kd.R_reads' HO_4.out).2.2 | with_reducible first | refine Kd.C_alloc ?_ _ | refine Kd.C_drewN ?_ _ | refine Kd.C_drew ?_)); (case side2 => exact (Kd.R_reads' HO_4.out).2.1); rintro e w45 ⟨rfl, hb⟩; refine ⟨_, rfl, ?_⟩; have n0_ := Aside0.mk (Kd.R_below (by (with_reducible repeat (first | apply Kd.R_alloc | apply Kd.R_drewN | apply Kd.R_drew)); exact HO_4.out) hb); have n1_ := Aside0.mk (bs_ hb); clear HO_4; clear HB; have HO_4 := n0_; have HB := n1_; clear n0_ n1_; (try clear hb); (try clear hb2); (try clear hk); (try clear hi)) | (go_at_call 65; (with_reducible refine (spec_l2Bytes.calls kj2 _ _ x4_1 t436 _ ?side1 ?side2 A39.out).mono ?_); (case side1 => repeat (first | exact (Kd.R_reads' HO_4.out).2.2 | with_reducible first | refine Kd.C_alloc ?_ _ | refine Kd.C_drewN ?_ _ | refine Kd.C_drew ?_)); (case side2 => exact (Kd.R_reads' HO_4.out).2.1); rintro e w46 ⟨rfl, hb⟩; have n0_ := Aside0.mk (Kd.R_below (by (with_reducible repeat (first | apply Kd.R_alloc | apply Kd.R_drewN | apply Kd.R_drew)); exact HO_4.out) hb); have n1_ := Aside0.mk (bs_ hb); clear HO_4; clear HB; have HO_4 := n0_; have HB := n1_; clear n0_ n1_; (try clear hb); (try clear hb2); (try clear hk); (try clear hi))); go_ret2; exact ⟨_, er_, by first | exact Kd.R_nil _ _ _ _ _ | exact Kd.N_nil _ _ _ _ _ | exact Kd.V_nil _ _ _ _ _ | exact Kd.Q_nil _ _ _ _ _ | exact Kd.S_nil _ _ _ _ _, bq_ HB⟩
       ·replace c38 := Bool.eq_false_iff.mpr c38; subst c38; have H1 : (some (([] : List (S67)), false)) = some (r1, r2) := by rw [if_neg (show ¬ (false = true) by decide)] at H; exact H
        clear H; have H := H1; clear H1; simp only [Option.some.injEq, Prod.mk.injEq] at H; obtain ⟨rfl, rfl⟩ := H; obtain ⟨Ao47, co47, eo47⟩ := Kd.R_slice HO_4.out; subst eo47; go_wp2_with (first | ((with_reducible refine gate_callee (f := 71) rfl ?_); refine goesL_ (some 81) rfl rfl Try.func71 (by kernel_rfl) rfl #[.slice Ao47 x4_1.length co47] rfl ma_ ?_; (with_reducible refine (spec_GoodItems.calls kj2 _ _ x4_1 false _ ?side1 ?side2 A37.out).mono ?_); (case side1 => repeat (first | exact (Kd.R_reads' HO_4.out).2.2 | with_reducible first | refine Kd.C_alloc ?_ _ | refine Kd.C_drewN ?_ _ | refine Kd.C_drew ?_)); (case side2 => exact (Kd.R_reads' HO_4.out).2.1); rintro e w48 ⟨rfl, hb⟩; refine ⟨_, rfl, ?_⟩; have n0_ := Aside0.mk (Kd.R_below (by (with_reducible repeat (first | apply Kd.R_alloc | apply Kd.R_drewN | apply Kd.R_drew)); exact HO_4.out) hb); have n1_ := Aside0.mk (bs_ hb); clear HO_4; clear HB; have HO_4 := n0_; have HB := n1_; clear n0_ n1_; (try clear hb); (try clear hb2); (try clear hk); (try clear hi))); go_ret2; exact ⟨_, er_, by first | exact Kd.R_nil _ _ _ _ _ | exact Kd.N_nil _ _ _ _ _ | exact Kd.V_nil _ _ _ _ _ | exact Kd.Q_nil _ _ _ _ _ | exact Kd.S_nil _ _ _ _ _, bq_ HB⟩
def spec_ReadBundle.j0 : Nat → ByteArray → List (S67) → Bool → Option (Int × Int × Bool × Int × Int × Int × Int × Int × Int × ByteArray × Bool)
 | 0, _, _, _ => none
 | k + 1, x0, x6, x29 => if x29 = true then (some (0, 0, false, 0, 0, 0, 0, 0, 0, (⟨#[]⟩ : ByteArray), false)) else (if 1 < (x6.length : Int) then (if 2 < (x6.length : Int) then (if 3 < (x6.length : Int) then (if 4 < (x6.length : Int) then (if 5 < (x6.length : Int) then (if 6 < (x6.length : Int) then (if 7 < (x6.length : Int) then (if 8 < (x6.length : Int) then (if 9 < (x6.length : Int) then (if 10 < (x6.length : Int) then ((spec_GoodBundle.f ((rd_T67 x6 1).f1) ((rd_T67 x6 2).f1) (((rd_T67 x6 3).f1) == 1) ((rd_T67 x6 4).f1) ((rd_T67 x6 5).f1) ((rd_T67 x6 6).f1) ((rd_T67 x6 7).f1) ((rd_T67 x6 8).f1) ((rd_T67 x6 9).f1) ((rd_T67 x6 10).f2)).bind fun t455 => (if t455 = true then ((spec_l3Bytes.f k ((rd_T67 x6 1).f1) ((rd_T67 x6 2).f1) (((rd_T67 x6 3).f1) == 1) ((rd_T67 x6 4).f1) ((rd_T67 x6 5).f1) ((rd_T67 x6 6).f1) ((rd_T67 x6 7).f1) ((rd_T67 x6 8).f1) ((rd_T67 x6 9).f1) ((rd_T67 x6 10).f2)).bind fun t456 => (if t456.toList = x0.toList then (some ((rd_T67 x6 1).f1, (rd_T67 x6 2).f1, (((rd_T67 x6 3).f1) == 1), (rd_T67 x6 4).f1, (rd_T67 x6 5).f1, (rd_T67 x6 6).f1, (rd_T67 x6 7).f1, (rd_T67 x6 8).f1, (rd_T67 x6 9).f1, (rd_T67 x6 10).f2, true)) else (some (0, 0, false, 0, 0, 0, 0, 0, 0, (⟨#[]⟩ : ByteArray), false)))) else (some (0, 0, false, 0, 0, 0, 0, 0, 0, (⟨#[]⟩ : ByteArray), false)))) else (none)) else (none)) else (none)) else (none)) else (none)) else (none)) else (none)) else (none)) else (none)) else (none))
def spec_ReadBundle.f (k : Nat) (a0 : ByteArray) : Option (Int × Int × Bool × Int × Int × Int × Int × Int × Int × ByteArray × Bool) := (spec_CheckCrc.f k a0).bind fun bt438 => ((spec_ReadItems.f k bt438.1).bind fun bt440 => (if bt438.2 = true then (if bt440.2 = true then (spec_ReadBundle.j0 k a0 bt440.1 ((bt440.1.length : Int) != 11)) else (spec_ReadBundle.j0 k a0 bt440.1 true)) else (spec_ReadBundle.j0 k a0 bt440.1 true)))
theorem spec_ReadBundle.mono_l : ∀ k, (∀ y0 y1 y2, LeO (spec_ReadBundle.j0 k y0 y1 y2) (spec_ReadBundle.j0 (k + 1) y0 y1 y2))
 | 0 => fun _ _ _ r h => by simp [spec_ReadBundle.j0] at h
 | k + 1 => by
  have ih0 := spec_ReadBundle.mono_l k
  ·intro y0 y1 y2; unfold spec_ReadBundle.j0
   repeat' first
   | (with_reducible exact ih0 _ _ _)
   | (with_reducible exact spec_CheckCrc.mono _ _)
   | (with_reducible exact spec_ReadItems.mono _ _)
   | (with_reducible exact spec_l3Bytes.mono _ _ _ _ _ _ _ _ _ _ _)
   | (with_reducible exact LeO.refl _)
   | (with_reducible exact LeO.none _)
   | (with_reducible refine LeO.ite ?_ ?_)
   | (with_reducible refine LeO.bind ?_ (fun _ => ?_))
   | exact ih0 _ _ _
   | exact spec_CheckCrc.mono _ _
   | exact spec_ReadItems.mono _ _
   | exact spec_l3Bytes.mono _ _ _ _ _ _ _ _ _ _ _
   | exact LeO.none _
   | refine LeO.ite ?_ ?_
   | refine LeO.bind ?_ (fun _ => ?_)
theorem spec_ReadBundle.mono : ∀ a0 k, LeO (spec_ReadBundle.f k a0) (spec_ReadBundle.f (k + 1) a0) := by
 intro a0 k; have ih0 := spec_ReadBundle.mono_l k; unfold spec_ReadBundle.f
 repeat' first
   | (with_reducible exact ih0 _ _ _)
   | (with_reducible exact spec_CheckCrc.mono _ _)
   | (with_reducible exact spec_ReadItems.mono _ _)
   | (with_reducible exact spec_l3Bytes.mono _ _ _ _ _ _ _ _ _ _ _)
   | (with_reducible exact LeO.refl _)
   | (with_reducible exact LeO.none _)
   | (with_reducible refine LeO.ite ?_ ?_)
   | (with_reducible refine LeO.bind ?_ (fun _ => ?_))
   | exact ih0 _ _ _
   | exact spec_CheckCrc.mono _ _
   | exact spec_ReadItems.mono _ _
   | exact spec_l3Bytes.mono _ _ _ _ _ _ _ _ _ _ _
   | exact LeO.none _
   | refine LeO.ite ?_ ?_
   | refine LeO.bind ?_ (fun _ => ?_)
def spec_ReadBundle.T5 : Bool × List (List Nat × List Nat) := (true, [([], []), ([0], [0]), ([1], [1]), ([2], [2]), ([], []), ([4], [4]), ([5], [5]), ([6], [6]), ([], []), ([8], [8]), ([9], [9]), ([10], [10]), ([11], [11]), ([], []), ([13], [13]), ([14], [14]), ([15], [15]), ([], []), ([17], [17]), ([18], [18]), ([19], [19]), ([], []), ([21], [21]), ([22], [22]), ([23], [23]), ([], []), ([25], [25]), ([26], [26]), ([27], [27]), ([], []), ([29], [29]), ([30], [30]), ([31], [31]), ([], []), ([33], [33]), ([34], [34]), ([35], [35]), ([], []), ([37], [37]), ([38], [38]), ([39], [39]), ([3, 7, 12, 16, 20, 24, 28, 32, 36, 40], [3, 7, 12, 16, 20, 24, 28, 32, 36, 40]), ([], []), ([42, 41, 0, 1, 2, 3, 4, 5, 6, 7, 8, 9, 10, 11, 12, 13, 14, 15, 16, 17, 18, 19, 20, 21, 22, 23, 24, 25, 26, 27, 28, 29, 30, 31, 32, 33, 34, 35, 36, 37, 38, 39, 40, 41, 42], [41, 42])])
def spec_ReadBundle.B5 : List Nat := [0, 1, 3, 7, 0, 16, 48, 112, 0, 256, 768, 1792, 3840, 0, 8192, 24576, 57344, 0, 131072, 393216, 917504, 0, 2097152, 6291456, 14680064, 0, 33554432, 100663296, 234881024, 0, 536870912, 1610612736, 3758096384, 0, 8589934592, 25769803776, 60129542144, 0, 137438953472, 412316860416, 962072674304, 2199023255551, 0, 8796093022207]
theorem spec_ReadBundle.tab5 : rtab .any (opsOf Try.f22 5) = spec_ReadBundle.T5 := by kernel_rfl
theorem spec_ReadBundle.bits5 : waitsOk spec_ReadBundle.T5.2 spec_ReadBundle.B5 = true := by kernel_rfl
end Go.Proofs.Ytaffjcaohbkmoaa.QFnBundles
