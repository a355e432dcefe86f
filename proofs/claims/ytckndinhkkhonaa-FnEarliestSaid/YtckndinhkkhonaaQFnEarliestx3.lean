import Derived.Test.YtckndinhkkhonaaQFnEarliestx0
import Derived.Test.YtckndinhkkhonaaQFnEarliestx1
import Derived.Test.YtckndinhkkhonaaQFnEarliestx2
namespace Go.Proofs.Ytckndinhkkhonaa.QFnEarliest
open Go.RowKit Go.Proofs.YtckndinhkkhonaaW.PrintWords Go.Proofs.YtckndinhkkhonaaW.PrintLast Go.Proofs.YtckndinhkkhonaaW.PrintMore
attribute [local go_sem] max2_int min2_int max_two min_two max_three min_three max_four min_four   -- for this text's walks alone
set_option linter.unusedVariables false
set_option linter.unusedSimpArgs false
mutual
def impl_ArriveBy.j0 : Nat → List (S53) → Int → List Int → Bool → Option (Int × Bool)
 | 0, _, _, _, _ => none
 | k + 1, x0, x2, x3, x55 => if x55 = true then (some (0, false)) else (impl_ArriveBy.l0 k x0 x2 x3 (x3.length : Int) 0)
def impl_ArriveBy.l0 : Nat → List (S53) → Int → List Int → Int → Int → Option (Int × Bool)
 | 0, _, _, _, _, _ => none
 | k + 1, x0, x2, x56, x57, x58 => if x58 < x57 then (if 0 ≤ x58 then (if x58 < (x56.length : Int) then (if 0 ≤ (rd x56 x58) then (if (rd x56 x58) < (x0.length : Int) then ((impl_Contact_by.f ((rd_T53 x0 (rd x56 x58)).f0) ((rd_T53 x0 (rd x56 x58)).f1) ((rd_T53 x0 (rd x56 x58)).f2) ((rd_T53 x0 (rd x56 x58)).f3) ((rd_T53 x0 (rd x56 x58)).f4) x2).bind fun bt138 => (if bt138.2 = true then (impl_ArriveBy.l0 k x0 bt138.1 x56 x57 (wrap64 (x58 + 1))) else (some (0, false)))) else (none)) else (none)) else (none)) else (none)) else (some (x2, true))
end
def impl_ArriveBy.f (k : Nat) (l0 : List (S53)) (a1 : Int) (a2 : Int) (l3 : List Int) : Option (Int × Bool) := (impl_GoodPlan.f l0).bind fun t129 => (if t129 = true then ((impl_isNode.f a1).bind fun t130 => (if t130 = true then ((impl_isWhen.f a2).bind fun t131 => (if t131 = true then ((impl_areOf.f l3 (l0.length : Int) 20).bind fun t132 => (if t132 = true then ((impl_isRow.f k l0 l3).bind fun t133 => (if t133 = true then (if (l3.length : Int) > 0 then (if 0 < (l3.length : Int) then (if 0 ≤ (rd l3 0) then (if (rd l3 0) < (l0.length : Int) then (impl_ArriveBy.j0 k l0 a2 l3 (((rd_T53 l0 (rd l3 0)).f0) != a1)) else (none)) else (none)) else (none)) else (impl_ArriveBy.j0 k l0 a2 l3 false)) else (impl_ArriveBy.j0 k l0 a2 l3 true))) else (impl_ArriveBy.j0 k l0 a2 l3 true))) else (impl_ArriveBy.j0 k l0 a2 l3 true))) else (impl_ArriveBy.j0 k l0 a2 l3 true))) else (impl_ArriveBy.j0 k l0 a2 l3 true))
theorem impl_ArriveBy.mono_l : ∀ k, (∀ y0 y1 y2 y3, LeO (impl_ArriveBy.j0 k y0 y1 y2 y3) (impl_ArriveBy.j0 (k + 1) y0 y1 y2 y3)) ∧ (∀ y0 y1 y2 y3 y4, LeO (impl_ArriveBy.l0 k y0 y1 y2 y3 y4) (impl_ArriveBy.l0 (k + 1) y0 y1 y2 y3 y4))
 | 0 => ⟨fun _ _ _ _ r h => by simp [impl_ArriveBy.j0] at h, fun _ _ _ _ _ r h => by simp [impl_ArriveBy.l0] at h⟩
 | k + 1 => by
  obtain ⟨ih0, ih1⟩ := impl_ArriveBy.mono_l k; refine ⟨?_, ?_⟩
  ·intro y0 y1 y2 y3; unfold impl_ArriveBy.j0
   repeat' first
   | (with_reducible exact ih0 _ _ _ _)
   | (with_reducible exact ih1 _ _ _ _ _)
   | (with_reducible exact impl_isRow.mono _ _ _)
   | (with_reducible exact LeO.refl _)
   | (with_reducible exact LeO.none _)
   | (with_reducible refine LeO.ite ?_ ?_)
   | (with_reducible refine LeO.bind ?_ (fun _ => ?_))
   | exact ih0 _ _ _ _
   | exact ih1 _ _ _ _ _
   | exact impl_isRow.mono _ _ _
   | exact LeO.none _
   | refine LeO.ite ?_ ?_
   | refine LeO.bind ?_ (fun _ => ?_)
  ·intro y0 y1 y2 y3 y4; unfold impl_ArriveBy.l0
   repeat' first
   | (with_reducible exact ih0 _ _ _ _)
   | (with_reducible exact ih1 _ _ _ _ _)
   | (with_reducible exact impl_isRow.mono _ _ _)
   | (with_reducible exact LeO.refl _)
   | (with_reducible exact LeO.none _)
   | (with_reducible refine LeO.ite ?_ ?_)
   | (with_reducible refine LeO.bind ?_ (fun _ => ?_))
   | exact ih0 _ _ _ _
   | exact ih1 _ _ _ _ _
   | exact impl_isRow.mono _ _ _
   | exact LeO.none _
   | refine LeO.ite ?_ ?_
   | refine LeO.bind ?_ (fun _ => ?_)
theorem impl_ArriveBy.mono : ∀ a0 a1 a2 a3 k, LeO (impl_ArriveBy.f k a0 a1 a2 a3) (impl_ArriveBy.f (k + 1) a0 a1 a2 a3) := by
 intro a0 a1 a2 a3 k; obtain ⟨ih0, ih1⟩ := impl_ArriveBy.mono_l k; unfold impl_ArriveBy.f
 repeat' first
   | (with_reducible exact ih0 _ _ _ _)
   | (with_reducible exact ih1 _ _ _ _ _)
   | (with_reducible exact impl_isRow.mono _ _ _)
   | (with_reducible exact LeO.refl _)
   | (with_reducible exact LeO.none _)
   | (with_reducible refine LeO.ite ?_ ?_)
   | (with_reducible refine LeO.bind ?_ (fun _ => ?_))
   | exact ih0 _ _ _ _
   | exact ih1 _ _ _ _ _
   | exact impl_isRow.mono _ _ _
   | exact LeO.none _
   | refine LeO.ite ?_ ?_
   | refine LeO.bind ?_ (fun _ => ?_)
set_option maxHeartbeats 8000000 in
set_option maxRecDepth 100000 in
theorem impl_ArriveBy.calls (k : Nat) (A0 : Option Addr) (c0 : Nat) (l0 : List (S53)) (a1 : Int) (a2 : Int) (A3 : Option Addr) (c3 : Nat) (l3 : List Int) (r1 : Int) (r2 : Bool) (w : World) (hr0 : Kd.C k53 w A0 l0.length l0) (hc0 : l0.length ≤ c0) (hr3 : Kd.C (Kd.int .i64) w A3 l3.length l3) (hc3 : l3.length ≤ c3) (h : impl_ArriveBy.f k l0 a1 a2 l3 = some (r1, r2)) :
  Calls Try.prog 29 #[.slice A0 l0.length c0, .int .i64 a1, .int .i64 a2, .slice A3 l3.length c3] w fun e w' => e = .returned (.tuple #[.int .i64 r1, .bool r2]) ∧ Below w.heap.size w w' := by
 have hu53 := Try.underlying53; have HR0 := Aside0.mk hr0; have HC0 := Aside0.mk hc0; clear hr0 hc0; have HR3 := Aside0.mk hr3; have HC3 := Aside0.mk hc3; clear hr3 hc3; have HB := Aside0.mk (Below.refl w.heap.size w); have H : ((impl_GoodPlan.f l0).bind fun t129 => (if t129 = true then ((impl_isNode.f a1).bind fun t130 => (if t130 = true then ((impl_isWhen.f a2).bind fun t131 => (if t131 = true then ((impl_areOf.f l3 (l0.length : Int) 20).bind fun t132 => (if t132 = true then ((impl_isRow.f k l0 l3).bind fun t133 => (if t133 = true then (if (l3.length : Int) > 0 then (if 0 < (l3.length : Int) then (if 0 ≤ (rd l3 0) then (if (rd l3 0) < (l0.length : Int) then (impl_ArriveBy.j0 k l0 a2 l3 (((rd_T53 l0 (rd l3 0)).f0) != a1)) else (none)) else (none)) else (none)) else (impl_ArriveBy.j0 k l0 a2 l3 false)) else (impl_ArriveBy.j0 k l0 a2 l3 true))) else (impl_ArriveBy.j0 k l0 a2 l3 true))) else (impl_ArriveBy.j0 k l0 a2 l3 true))) else (impl_ArriveBy.j0 k l0 a2 l3 true))) else (impl_ArriveBy.j0 k l0 a2 l3 true))) = some (r1, r2) := h; clear h; have HC5 := Aside0.mk H; clear H
 go_enter Try.func29, Try.ntmps29
 go_upto_region 1 with (fail)
 go_cut [55] (fun v55 wc => ∃ (kq : Nat) (x55_4 : Bool), v55 = .bool x55_4 ∧ Aside0 (impl_ArriveBy.j0 kq l0 a2 l3 x55_4 = some (r1, r2)) ∧ Aside0 (kq ≤ k) ∧ Aside0 (Below w.heap.size w wc))
 case first =>
  have H := HC5.out; clear HC5; replace H := Option.bind_eq_some_iff.mp H; obtain ⟨t129, A60, H⟩ := H; replace H : (if t129 = true then ((impl_isNode.f a1).bind fun t130 => (if t130 = true then ((impl_isWhen.f a2).bind fun t131 => (if t131 = true then ((impl_areOf.f l3 (l0.length : Int) 20).bind fun t132 => (if t132 = true then ((impl_isRow.f k l0 l3).bind fun t133 => (if t133 = true then (if (l3.length : Int) > 0 then (if 0 < (l3.length : Int) then (if 0 ≤ (rd l3 0) then (if (rd l3 0) < (l0.length : Int) then (impl_ArriveBy.j0 k l0 a2 l3 (((rd_T53 l0 (rd l3 0)).f0) != a1)) else (none)) else (none)) else (none)) else (impl_ArriveBy.j0 k l0 a2 l3 false)) else (impl_ArriveBy.j0 k l0 a2 l3 true))) else (impl_ArriveBy.j0 k l0 a2 l3 true))) else (impl_ArriveBy.j0 k l0 a2 l3 true))) else (impl_ArriveBy.j0 k l0 a2 l3 true))) else (impl_ArriveBy.j0 k l0 a2 l3 true)) = some (r1, r2) := H; have A6 := Aside0.mk A60; clear A60; by_cases c7 : t129 = true
  ·subst c7; have H1 : ((impl_isNode.f a1).bind fun t130 => (if t130 = true then ((impl_isWhen.f a2).bind fun t131 => (if t131 = true then ((impl_areOf.f l3 (l0.length : Int) 20).bind fun t132 => (if t132 = true then ((impl_isRow.f k l0 l3).bind fun t133 => (if t133 = true then (if (l3.length : Int) > 0 then (if 0 < (l3.length : Int) then (if 0 ≤ (rd l3 0) then (if (rd l3 0) < (l0.length : Int) then (impl_ArriveBy.j0 k l0 a2 l3 (((rd_T53 l0 (rd l3 0)).f0) != a1)) else (none)) else (none)) else (none)) else (impl_ArriveBy.j0 k l0 a2 l3 false)) else (impl_ArriveBy.j0 k l0 a2 l3 true))) else (impl_ArriveBy.j0 k l0 a2 l3 true))) else (impl_ArriveBy.j0 k l0 a2 l3 true))) else (impl_ArriveBy.j0 k l0 a2 l3 true))) = some (r1, r2) := by rw [if_pos rfl] at H; exact H
   clear H; have H := H1; clear H1; replace H := Option.bind_eq_some_iff.mp H; obtain ⟨t130, A80, H⟩ := H; replace H : (if t130 = true then ((impl_isWhen.f a2).bind fun t131 => (if t131 = true then ((impl_areOf.f l3 (l0.length : Int) 20).bind fun t132 => (if t132 = true then ((impl_isRow.f k l0 l3).bind fun t133 => (if t133 = true then (if (l3.length : Int) > 0 then (if 0 < (l3.length : Int) then (if 0 ≤ (rd l3 0) then (if (rd l3 0) < (l0.length : Int) then (impl_ArriveBy.j0 k l0 a2 l3 (((rd_T53 l0 (rd l3 0)).f0) != a1)) else (none)) else (none)) else (none)) else (impl_ArriveBy.j0 k l0 a2 l3 false)) else (impl_ArriveBy.j0 k l0 a2 l3 true))) else (impl_ArriveBy.j0 k l0 a2 l3 true))) else (impl_ArriveBy.j0 k l0 a2 l3 true))) else (impl_ArriveBy.j0 k l0 a2 l3 true)) = some (r1, r2) := H; have A8 := Aside0.mk A80; clear A80; by_cases c9 : t130 = true
   ·subst c9; have H1 : ((impl_isWhen.f a2).bind fun t131 => (if t131 = true then ((impl_areOf.f l3 (l0.length : Int) 20).bind fun t132 => (if t132 = true then ((impl_isRow.f k l0 l3).bind fun t133 => (if t133 = true then (if (l3.length : Int) > 0 then (if 0 < (l3.length : Int) then (if 0 ≤ (rd l3 0) then (if (rd l3 0) < (l0.length : Int) then (impl_ArriveBy.j0 k l0 a2 l3 (((rd_T53 l0 (rd l3 0)).f0) != a1)) else (none)) else (none)) else (none)) else (impl_ArriveBy.j0 k l0 a2 l3 false)) else (impl_ArriveBy.j0 k l0 a2 l3 true))) else (impl_ArriveBy.j0 k l0 a2 l3 true))) else (impl_ArriveBy.j0 k l0 a2 l3 true))) = some (r1, r2) := by rw [if_pos rfl] at H; exact H
    clear H; have H := H1; clear H1; replace H := Option.bind_eq_some_iff.mp H; obtain ⟨t131, A100, H⟩ := H; replace H : (if t131 = true then ((impl_areOf.f l3 (l0.length : Int) 20).bind fun t132 => (if t132 = true then ((impl_isRow.f k l0 l3).bind fun t133 => (if t133 = true then (if (l3.length : Int) > 0 then (if 0 < (l3.length : Int) then (if 0 ≤ (rd l3 0) then (if (rd l3 0) < (l0.length : Int) then (impl_ArriveBy.j0 k l0 a2 l3 (((rd_T53 l0 (rd l3 0)).f0) != a1)) else (none)) else (none)) else (none)) else (impl_ArriveBy.j0 k l0 a2 l3 false)) else (impl_ArriveBy.j0 k l0 a2 l3 true))) else (impl_ArriveBy.j0 k l0 a2 l3 true))) else (impl_ArriveBy.j0 k l0 a2 l3 true)) = some (r1, r2) := H; have A10 := Aside0.mk A100; clear A100; by_cases c11 : t131 = true
    ·subst c11; have H1 : ((impl_areOf.f l3 (l0.length : Int) 20).bind fun t132 => (if t132 = true then ((impl_isRow.f k l0 l3).bind fun t133 => (if t133 = true then (if (l3.length : Int) > 0 then (if 0 < (l3.length : Int) then (if 0 ≤ (rd l3 0) then (if (rd l3 0) < (l0.length : Int) then (impl_ArriveBy.j0 k l0 a2 l3 (((rd_T53 l0 (rd l3 0)).f0) != a1)) else (none)) else (none)) else (none)) else (impl_ArriveBy.j0 k l0 a2 l3 false)) else (impl_ArriveBy.j0 k l0 a2 l3 true))) else (impl_ArriveBy.j0 k l0 a2 l3 true))) = some (r1, r2) := by rw [if_pos rfl] at H; exact H
     clear H; have H := H1; clear H1; replace H := Option.bind_eq_some_iff.mp H; obtain ⟨t132, A120, H⟩ := H; replace H : (if t132 = true then ((impl_isRow.f k l0 l3).bind fun t133 => (if t133 = true then (if (l3.length : Int) > 0 then (if 0 < (l3.length : Int) then (if 0 ≤ (rd l3 0) then (if (rd l3 0) < (l0.length : Int) then (impl_ArriveBy.j0 k l0 a2 l3 (((rd_T53 l0 (rd l3 0)).f0) != a1)) else (none)) else (none)) else (none)) else (impl_ArriveBy.j0 k l0 a2 l3 false)) else (impl_ArriveBy.j0 k l0 a2 l3 true))) else (impl_ArriveBy.j0 k l0 a2 l3 true)) = some (r1, r2) := H; have A12 := Aside0.mk A120; clear A120; by_cases c13 : t132 = true
     ·subst c13; have H1 : ((impl_isRow.f k l0 l3).bind fun t133 => (if t133 = true then (if (l3.length : Int) > 0 then (if 0 < (l3.length : Int) then (if 0 ≤ (rd l3 0) then (if (rd l3 0) < (l0.length : Int) then (impl_ArriveBy.j0 k l0 a2 l3 (((rd_T53 l0 (rd l3 0)).f0) != a1)) else (none)) else (none)) else (none)) else (impl_ArriveBy.j0 k l0 a2 l3 false)) else (impl_ArriveBy.j0 k l0 a2 l3 true))) = some (r1, r2) := by rw [if_pos rfl] at H; exact H
      clear H; have H := H1; clear H1; replace H := Option.bind_eq_some_iff.mp H; obtain ⟨t133, A140, H⟩ := H; replace H : (if t133 = true then (if (l3.length : Int) > 0 then (if 0 < (l3.length : Int) then (if 0 ≤ (rd l3 0) then (if (rd l3 0) < (l0.length : Int) then (impl_ArriveBy.j0 k l0 a2 l3 (((rd_T53 l0 (rd l3 0)).f0) != a1)) else (none)) else (none)) else (none)) else (impl_ArriveBy.j0 k l0 a2 l3 false)) else (impl_ArriveBy.j0 k l0 a2 l3 true)) = some (r1, r2) := H; have A14 := Aside0.mk A140; clear A140; by_cases c15 : t133 = true
      ·subst c15; have H1 : (if (l3.length : Int) > 0 then (if 0 < (l3.length : Int) then (if 0 ≤ (rd l3 0) then (if (rd l3 0) < (l0.length : Int) then (impl_ArriveBy.j0 k l0 a2 l3 (((rd_T53 l0 (rd l3 0)).f0) != a1)) else (none)) else (none)) else (none)) else (impl_ArriveBy.j0 k l0 a2 l3 false)) = some (r1, r2) := by rw [if_pos rfl] at H; exact H
       clear H; have H := H1; clear H1; by_cases c16 : (l3.length : Int) > 0
       ·rw [if_pos c16] at H; have c16b0 : decide (0 < (l3.length : Int)) = true := decide_eq_true c16; have c16b1 : decide (0 < l3.length) = true := decide_eq_true (by omega); clear c16; (first | rw [c16b0] | (simp only [i64_w, i32_w]; rw [c16b0]) | skip); by_cases c17 : 0 < (l3.length : Int)
        ·rw [if_pos c17] at H; have c17b0 : decide (0 < (l3.length : Int)) = true := decide_eq_true c17; have c17b1 : decide (0 < l3.length) = true := decide_eq_true (by omega); clear c17; by_cases c18 : 0 ≤ (rd l3 0)
         ·rw [if_pos c18] at H; have c18b0 : decide (0 ≤ (rd l3 0)) = true := decide_eq_true c18; clear c18; by_cases c19 : (rd l3 0) < (l0.length : Int)
          ·rw [if_pos c19] at H; have c19b0 : decide ((rd l3 0) < (l0.length : Int)) = true := decide_eq_true c19; clear c19; have H' := Aside0.mk H; clear H; go_wp2_with (first | ((with_reducible refine gate_callee (f := 17) rfl ?_); refine goesL_ (some 15) rfl rfl Try.func17 (by kernel_rfl) rfl #[.slice A0 l0.length c0] rfl (by (try simp only [List.map_toArray, List.map_cons, List.map_nil]); first | done | rfl | (simp only [List.length_drop, List.length_take]; rfl)) ?_; (with_reducible refine (impl_GoodPlan.calls _ _ l0 true _ ?side1 ?side2 A6.out).mono ?_); (case side1 => repeat (first | exact (Kd.C_below HR0.out HB.out) | with_reducible first | refine Kd.C_alloc ?_ _ | refine Kd.C_drewN ?_ _ | refine Kd.C_drew ?_)); (case side2 => exact HC0.out); rintro e w20 ⟨rfl, hb⟩; refine ⟨_, rfl, ?_⟩; have n0_ := Aside0.mk (below_step (by repeat (first | (with_reducible first | exact HB.out | apply below_alloc | apply pw_below_drewN | apply below_drew1) | exact HB.out | (with_reducible exact Below.refl _ _))) hb); clear HB; have HB := n0_; clear n0_; (try clear hb); (try clear hb2); (try clear hk); (try clear hi)) | (go_at_call 63; (with_reducible refine (impl_isNode.calls a1 true _ A8.out).mono ?_); rintro e w' ⟨rfl, ⟨nd, rfl⟩⟩) | (go_at_call 58; (with_reducible refine (impl_isWhen.calls a2 true _ A10.out).mono ?_); rintro e w' ⟨rfl, ⟨nd, rfl⟩⟩) | (go_at_call 60; (with_reducible refine (impl_areOf.calls _ _ l3 (l0.length : Int) 20 true _ ?side1 ?side2 A12.out).mono ?_); (case side1 => repeat (first | exact (Kd.C_below HR3.out (by repeat (first | (with_reducible first | exact HB.out | apply below_alloc | apply pw_below_drewN | apply below_drew1) | exact HB.out | (with_reducible exact Below.refl _ _)))) | with_reducible first | refine Kd.C_alloc ?_ _ | refine Kd.C_drewN ?_ _ | refine Kd.C_drew ?_)); (case side2 => exact HC3.out); rintro e w21 ⟨rfl, hb⟩; have n0_ := Aside0.mk (below_step (by repeat (first | (with_reducible first | exact HB.out | apply below_alloc | apply pw_below_drewN | apply below_drew1) | exact HB.out | (with_reducible exact Below.refl _ _))) hb); clear HB; have HB := n0_; clear n0_; (try clear hb); (try clear hb2); (try clear hk); (try clear hi)) | (go_at_call 61; (with_reducible refine (impl_isRow.calls k _ _ l0 _ _ l3 true _ ?side1 ?side2 ?side3 ?side4 A14.out).mono ?_); (case side1 => repeat (first | exact (Kd.C_below HR0.out HB.out) | with_reducible first | refine Kd.C_alloc ?_ _ | refine Kd.C_drewN ?_ _ | refine Kd.C_drew ?_)); (case side2 => exact HC0.out); (case side3 => repeat (first | exact (Kd.C_below HR3.out HB.out) | with_reducible first | refine Kd.C_alloc ?_ _ | refine Kd.C_drewN ?_ _ | refine Kd.C_drew ?_)); (case side4 => exact HC3.out); rintro e w' ⟨rfl, ⟨nd, rfl⟩⟩; have p134 : 0 ≤ (0 : Int) := (by omega); have q134 : 0 < (l3.length : Int) := of_decide_eq_true (by first | (with_reducible assumption) | assumption); obtain ⟨ad134, e134, hx134_0⟩ := Kd.at_int HR3.out 0 p134 q134; cases e134; have qi134 : (0 < l3.length) = True := eq_true (by omega); (try rw [show ((0 : Int)).toNat = 0 from rfl] at hx134_0); (try rw [Addr.add_zero'] at hx134_0); replace hx134_0 := (HB.out.cell (World.block_lt_of_cell? w _ hx134_0)).trans hx134_0; replace p134 := eq_true p134; replace q134 := eq_true q134; have p135 : 0 ≤ ((rd l3 0) : Int) := of_decide_eq_true (by first | (with_reducible assumption) | assumption); have q135 : (rd l3 0) < (l0.length : Int) := of_decide_eq_true (by first | (with_reducible assumption) | assumption); obtain ⟨ad135, e135, hx135_0, hx135_1, hx135_2, hx135_3, hx135_4⟩ := at_T53 HR0.out (rd l3 0) p135 q135; cases e135; replace hx135_0 := (HB.out.cell (World.block_lt_of_cell? w _ hx135_0)).trans hx135_0; replace hx135_1 := (HB.out.cell (World.block_lt_of_cell? w _ hx135_1)).trans hx135_1; replace hx135_2 := (HB.out.cell (World.block_lt_of_cell? w _ hx135_2)).trans hx135_2; replace hx135_3 := (HB.out.cell (World.block_lt_of_cell? w _ hx135_3)).trans hx135_3; replace hx135_4 := (HB.out.cell (World.block_lt_of_cell? w _ hx135_4)).trans hx135_4; replace p135 := eq_true p135; replace q135 := eq_true q135)); go_meet
           case rel => exact ⟨_, ((((rd_T53 l0 (rd l3 0)).f0) != a1)), (by first | rfl | (simp; done) | (simp [*]; done)), H', ⟨by first | omega | exact Nat.le_refl _⟩, ⟨by repeat (first | (with_reducible first | exact HB.out | apply below_alloc | apply pw_below_drewN | apply below_drew1) | exact HB.out | (with_reducible exact Below.refl _ _))⟩⟩
          ·rw [if_neg c19] at H; exact absurd H (by simp)
         ·rw [if_neg c18] at H; exact absurd H (by simp)
        ·rw [if_neg c17] at H; exact absurd H (by simp)
       ·rw [if_neg c16] at H; have c16b0 : decide (0 < (l3.length : Int)) = false := decide_eq_false c16; have c16b1 : decide (0 < l3.length) = false := decide_eq_false (by omega); clear c16; (first | rw [c16b0] | (simp only [i64_w, i32_w]; rw [c16b0]) | skip); have H' := Aside0.mk H; clear H; go_wp2_with (first | ((with_reducible refine gate_callee (f := 17) rfl ?_); refine goesL_ (some 15) rfl rfl Try.func17 (by kernel_rfl) rfl #[.slice A0 l0.length c0] rfl (by (try simp only [List.map_toArray, List.map_cons, List.map_nil]); first | done | rfl | (simp only [List.length_drop, List.length_take]; rfl)) ?_; (with_reducible refine (impl_GoodPlan.calls _ _ l0 true _ ?side1 ?side2 A6.out).mono ?_); (case side1 => repeat (first | exact (Kd.C_below HR0.out HB.out) | with_reducible first | refine Kd.C_alloc ?_ _ | refine Kd.C_drewN ?_ _ | refine Kd.C_drew ?_)); (case side2 => exact HC0.out); rintro e w22 ⟨rfl, hb⟩; refine ⟨_, rfl, ?_⟩; have n0_ := Aside0.mk (below_step (by repeat (first | (with_reducible first | exact HB.out | apply below_alloc | apply pw_below_drewN | apply below_drew1) | exact HB.out | (with_reducible exact Below.refl _ _))) hb); clear HB; have HB := n0_; clear n0_; (try clear hb); (try clear hb2); (try clear hk); (try clear hi)) | (go_at_call 63; (with_reducible refine (impl_isNode.calls a1 true _ A8.out).mono ?_); rintro e w' ⟨rfl, ⟨nd, rfl⟩⟩) | (go_at_call 58; (with_reducible refine (impl_isWhen.calls a2 true _ A10.out).mono ?_); rintro e w' ⟨rfl, ⟨nd, rfl⟩⟩) | (go_at_call 60; (with_reducible refine (impl_areOf.calls _ _ l3 (l0.length : Int) 20 true _ ?side1 ?side2 A12.out).mono ?_); (case side1 => repeat (first | exact (Kd.C_below HR3.out (by repeat (first | (with_reducible first | exact HB.out | apply below_alloc | apply pw_below_drewN | apply below_drew1) | exact HB.out | (with_reducible exact Below.refl _ _)))) | with_reducible first | refine Kd.C_alloc ?_ _ | refine Kd.C_drewN ?_ _ | refine Kd.C_drew ?_)); (case side2 => exact HC3.out); rintro e w23 ⟨rfl, hb⟩; have n0_ := Aside0.mk (below_step (by repeat (first | (with_reducible first | exact HB.out | apply below_alloc | apply pw_below_drewN | apply below_drew1) | exact HB.out | (with_reducible exact Below.refl _ _))) hb); clear HB; have HB := n0_; clear n0_; (try clear hb); (try clear hb2); (try clear hk); (try clear hi)) | (go_at_call 61; (with_reducible refine (impl_isRow.calls k _ _ l0 _ _ l3 true _ ?side1 ?side2 ?side3 ?side4 A14.out).mono ?_); (case side1 => repeat (first | exact (Kd.C_below HR0.out HB.out) | with_reducible first | refine Kd.C_alloc ?_ _ | refine Kd.C_drewN ?_ _ | refine Kd.C_drew ?_)); (case side2 => exact HC0.out); (case side3 => repeat (first | exact (Kd.C_below HR3.out HB.out) | with_reducible first | refine Kd.C_alloc ?_ _ | refine Kd.C_drewN ?_ _ | refine Kd.C_drew ?_)); (case side4 => exact HC3.out); rintro e w' ⟨rfl, ⟨nd, rfl⟩⟩)); go_meet
        case rel => exact ⟨_, (false), (by first | rfl | (simp; done) | (simp [*]; done)), H', ⟨by first | omega | exact Nat.le_refl _⟩, ⟨by repeat (first | (with_reducible first | exact HB.out | apply below_alloc | apply pw_below_drewN | apply below_drew1) | exact HB.out | (with_reducible exact Below.refl _ _))⟩⟩
      ·replace c15 := Bool.eq_false_iff.mpr c15; subst c15; have H1 : (impl_ArriveBy.j0 k l0 a2 l3 true) = some (r1, r2) := by rw [if_neg (show ¬ (false = true) by decide)] at H; exact H
       clear H; have H := H1; clear H1; have H' := Aside0.mk H; clear H; go_wp2_with (first | ((with_reducible refine gate_callee (f := 17) rfl ?_); refine goesL_ (some 15) rfl rfl Try.func17 (by kernel_rfl) rfl #[.slice A0 l0.length c0] rfl (by (try simp only [List.map_toArray, List.map_cons, List.map_nil]); first | done | rfl | (simp only [List.length_drop, List.length_take]; rfl)) ?_; (with_reducible refine (impl_GoodPlan.calls _ _ l0 true _ ?side1 ?side2 A6.out).mono ?_); (case side1 => repeat (first | exact (Kd.C_below HR0.out HB.out) | with_reducible first | refine Kd.C_alloc ?_ _ | refine Kd.C_drewN ?_ _ | refine Kd.C_drew ?_)); (case side2 => exact HC0.out); rintro e w24 ⟨rfl, hb⟩; refine ⟨_, rfl, ?_⟩; have n0_ := Aside0.mk (below_step (by repeat (first | (with_reducible first | exact HB.out | apply below_alloc | apply pw_below_drewN | apply below_drew1) | exact HB.out | (with_reducible exact Below.refl _ _))) hb); clear HB; have HB := n0_; clear n0_; (try clear hb); (try clear hb2); (try clear hk); (try clear hi)) | (go_at_call 63; (with_reducible refine (impl_isNode.calls a1 true _ A8.out).mono ?_); rintro e w' ⟨rfl, ⟨nd, rfl⟩⟩) | (go_at_call 58; (with_reducible refine (impl_isWhen.calls a2 true _ A10.out).mono ?_); rintro e w' ⟨rfl, ⟨nd, rfl⟩⟩) | (go_at_call 60; (with_reducible refine (impl_areOf.calls _ _ l3 (l0.length : Int) 20 true _ ?side1 ?side2 A12.out).mono ?_); (case side1 => repeat (first | exact (Kd.C_below HR3.out (by repeat (first | (with_reducible first | exact HB.out | apply below_alloc | apply pw_below_drewN | apply below_drew1) | exact HB.out | (with_reducible exact Below.refl _ _)))) | with_reducible first | refine Kd.C_alloc ?_ _ | refine Kd.C_drewN ?_ _ | refine Kd.C_drew ?_)); (case side2 => exact HC3.out); rintro e w25 ⟨rfl, hb⟩; have n0_ := Aside0.mk (below_step (by repeat (first | (with_reducible first | exact HB.out | apply below_alloc | apply pw_below_drewN | apply below_drew1) | exact HB.out | (with_reducible exact Below.refl _ _))) hb); clear HB; have HB := n0_; clear n0_; (try clear hb); (try clear hb2); (try clear hk); (try clear hi)) | (go_at_call 61; (with_reducible refine (impl_isRow.calls k _ _ l0 _ _ l3 false _ ?side1 ?side2 ?side3 ?side4 A14.out).mono ?_); (case side1 => repeat (first | exact (Kd.C_below HR0.out HB.out) | with_reducible first | refine Kd.C_alloc ?_ _ | refine Kd.C_drewN ?_ _ | refine Kd.C_drew ?_)); (case side2 => exact HC0.out); (case side3 => repeat (first | exact (Kd.C_below HR3.out HB.out) | with_reducible first | refine Kd.C_alloc ?_ _ | refine Kd.C_drewN ?_ _ | refine Kd.C_drew ?_)); (case side4 => exact HC3.out); rintro e w' ⟨rfl, ⟨nd, rfl⟩⟩)); go_meet
       case rel => exact ⟨_, (true), (by first | rfl | (simp; done) | (simp [*]; done)), H', ⟨by first | omega | exact Nat.le_refl _⟩, ⟨by repeat (first | (with_reducible first | exact HB.out | apply below_alloc | apply pw_below_drewN | apply below_drew1) | exact HB.out | (with_reducible exact Below.refl _ _))⟩⟩
     ·replace c13 := Bool.eq_false_iff.mpr c13; subst c13; have H1 : (impl_ArriveBy.j0 k l0 a2 l3 true) = some (r1, r2) := by rw [if_neg (show ¬ (false = true) by decide)] at H; exact H
      clear H; have H := H1; clear H1; have H' := Aside0.mk H; clear H; go_wp2_with (first | ((with_reducible refine gate_callee (f := 17) rfl ?_); refine goesL_ (some 15) rfl rfl Try.func17 (by kernel_rfl) rfl #[.slice A0 l0.length c0] rfl (by (try simp only [List.map_toArray, List.map_cons, List.map_nil]); first | done | rfl | (simp only [List.length_drop, List.length_take]; rfl)) ?_; (with_reducible refine (impl_GoodPlan.calls _ _ l0 true _ ?side1 ?side2 A6.out).mono ?_); (case side1 => repeat (first | exact (Kd.C_below HR0.out HB.out) | with_reducible first | refine Kd.C_alloc ?_ _ | refine Kd.C_drewN ?_ _ | refine Kd.C_drew ?_)); (case side2 => exact HC0.out); rintro e w26 ⟨rfl, hb⟩; refine ⟨_, rfl, ?_⟩; have n0_ := Aside0.mk (below_step (by repeat (first | (with_reducible first | exact HB.out | apply below_alloc | apply pw_below_drewN | apply below_drew1) | exact HB.out | (with_reducible exact Below.refl _ _))) hb); clear HB; have HB := n0_; clear n0_; (try clear hb); (try clear hb2); (try clear hk); (try clear hi)) | (go_at_call 63; (with_reducible refine (impl_isNode.calls a1 true _ A8.out).mono ?_); rintro e w' ⟨rfl, ⟨nd, rfl⟩⟩) | (go_at_call 58; (with_reducible refine (impl_isWhen.calls a2 true _ A10.out).mono ?_); rintro e w' ⟨rfl, ⟨nd, rfl⟩⟩) | (go_at_call 60; (with_reducible refine (impl_areOf.calls _ _ l3 (l0.length : Int) 20 false _ ?side1 ?side2 A12.out).mono ?_); (case side1 => repeat (first | exact (Kd.C_below HR3.out (by repeat (first | (with_reducible first | exact HB.out | apply below_alloc | apply pw_below_drewN | apply below_drew1) | exact HB.out | (with_reducible exact Below.refl _ _)))) | with_reducible first | refine Kd.C_alloc ?_ _ | refine Kd.C_drewN ?_ _ | refine Kd.C_drew ?_)); (case side2 => exact HC3.out); rintro e w27 ⟨rfl, hb⟩; have n0_ := Aside0.mk (below_step (by repeat (first | (with_reducible first | exact HB.out | apply below_alloc | apply pw_below_drewN | apply below_drew1) | exact HB.out | (with_reducible exact Below.refl _ _))) hb); clear HB; have HB := n0_; clear n0_; (try clear hb); (try clear hb2); (try clear hk); (try clear hi))); go_meet
      case rel => exact ⟨_, (true), (by first | rfl | (simp; done) | (simp [*]; done)), H', ⟨by first | omega | exact Nat.le_refl _⟩, ⟨by repeat (first | (with_reducible first | exact HB.out | apply below_alloc | apply pw_below_drewN | apply below_drew1) | exact HB.out | (with_reducible exact Below.refl _ _))⟩⟩
    ·replace c11 := Bool.eq_false_iff.mpr c11; subst c11; have H1 : (impl_ArriveBy.j0 k l0 a2 l3 true) = some (r1, r2) := by rw [if_neg (show ¬ (false = true) by decide)] at H; exact H
     clear H; have H := H1; clear H1; have H' := Aside0.mk H; clear H; go_wp2_with (first | ((with_reducible refine gate_callee (f := 17) rfl ?_); refine goesL_ (some 15) rfl rfl Try.func17 (by kernel_rfl) rfl #[.slice A0 l0.length c0] rfl (by (try simp only [List.map_toArray, List.map_cons, List.map_nil]); first | done | rfl | (simp only [List.length_drop, List.length_take]; rfl)) ?_; (with_reducible refine (impl_GoodPlan.calls _ _ l0 true _ ?side1 ?side2 A6.out).mono ?_); (case side1 => repeat (first | exact (Kd.C_below HR0.out HB.out) | with_reducible first | refine Kd.C_alloc ?_ _ | refine Kd.C_drewN ?_ _ | refine Kd.C_drew ?_)); (case side2 => exact HC0.out); rintro e w28 ⟨rfl, hb⟩; refine ⟨_, rfl, ?_⟩; have n0_ := Aside0.mk (below_step (by repeat (first | (with_reducible first | exact HB.out | apply below_alloc | apply pw_below_drewN | apply below_drew1) | exact HB.out | (with_reducible exact Below.refl _ _))) hb); clear HB; have HB := n0_; clear n0_; (try clear hb); (try clear hb2); (try clear hk); (try clear hi)) | (go_at_call 63; (with_reducible refine (impl_isNode.calls a1 true _ A8.out).mono ?_); rintro e w' ⟨rfl, ⟨nd, rfl⟩⟩) | (go_at_call 58; (with_reducible refine (impl_isWhen.calls a2 false _ A10.out).mono ?_); rintro e w' ⟨rfl, ⟨nd, rfl⟩⟩)); go_meet
     case rel => exact ⟨_, (true), (by first | rfl | (simp; done) | (simp [*]; done)), H', ⟨by first | omega | exact Nat.le_refl _⟩, ⟨by repeat (first | (with_reducible first | exact HB.out | apply below_alloc | apply pw_below_drewN | apply below_drew1) | exact HB.out | (with_reducible exact Below.refl _ _))⟩⟩
   ·replace c9 := Bool.eq_false_iff.mpr c9; subst c9; have H1 : (impl_ArriveBy.j0 k l0 a2 l3 true) = some (r1, r2) := by rw [if_neg (show ¬ (false = true) by decide)] at H; exact H
    clear H; have H := H1; clear H1; have H' := Aside0.mk H; clear H; go_wp2_with (first | ((with_reducible refine gate_callee (f := 17) rfl ?_); refine goesL_ (some 15) rfl rfl Try.func17 (by kernel_rfl) rfl #[.slice A0 l0.length c0] rfl (by (try simp only [List.map_toArray, List.map_cons, List.map_nil]); first | done | rfl | (simp only [List.length_drop, List.length_take]; rfl)) ?_; (with_reducible refine (impl_GoodPlan.calls _ _ l0 true _ ?side1 ?side2 A6.out).mono ?_); (case side1 => repeat (first | exact (Kd.C_below HR0.out HB.out) | with_reducible first | refine Kd.C_alloc ?_ _ | refine Kd.C_drewN ?_ _ | refine Kd.C_drew ?_)); (case side2 => exact HC0.out); rintro e w29 ⟨rfl, hb⟩; refine ⟨_, rfl, ?_⟩; have n0_ := Aside0.mk (below_step (by repeat (first | (with_reducible first | exact HB.out | apply below_alloc | apply pw_below_drewN | apply below_drew1) | exact HB.out | (with_reducible exact Below.refl _ _))) hb); clear HB; have HB := n0_; clear n0_; (try clear hb); (try clear hb2); (try clear hk); (try clear hi)) | (go_at_call 63; (with_reducible refine (impl_isNode.calls a1 false _ A8.out).mono ?_); rintro e w' ⟨rfl, ⟨nd, rfl⟩⟩)); go_meet
    case rel => exact ⟨_, (true), (by first | rfl | (simp; done) | (simp [*]; done)), H', ⟨by first | omega | exact Nat.le_refl _⟩, ⟨by repeat (first | (with_reducible first | exact HB.out | apply below_alloc | apply pw_below_drewN | apply below_drew1) | exact HB.out | (with_reducible exact Below.refl _ _))⟩⟩
  ·replace c7 := Bool.eq_false_iff.mpr c7; subst c7; have H1 : (impl_ArriveBy.j0 k l0 a2 l3 true) = some (r1, r2) := by rw [if_neg (show ¬ (false = true) by decide)] at H; exact H
   clear H; have H := H1; clear H1; have H' := Aside0.mk H; clear H; go_wp2_with (first | ((with_reducible refine gate_callee (f := 17) rfl ?_); refine goesL_ (some 15) rfl rfl Try.func17 (by kernel_rfl) rfl #[.slice A0 l0.length c0] rfl (by (try simp only [List.map_toArray, List.map_cons, List.map_nil]); first | done | rfl | (simp only [List.length_drop, List.length_take]; rfl)) ?_; (with_reducible refine (impl_GoodPlan.calls _ _ l0 false _ ?side1 ?side2 A6.out).mono ?_); (case side1 => repeat (first | exact (Kd.C_below HR0.out HB.out) | with_reducible first | refine Kd.C_alloc ?_ _ | refine Kd.C_drewN ?_ _ | refine Kd.C_drew ?_)); (case side2 => exact HC0.out); rintro e w30 ⟨rfl, hb⟩; refine ⟨_, rfl, ?_⟩; have n0_ := Aside0.mk (below_step (by repeat (first | (with_reducible first | exact HB.out | apply below_alloc | apply pw_below_drewN | apply below_drew1) | exact HB.out | (with_reducible exact Below.refl _ _))) hb); clear HB; have HB := n0_; clear n0_; (try clear hb); (try clear hb2); (try clear hk); (try clear hi))); go_meet
   case rel => exact ⟨_, (true), (by first | rfl | (simp; done) | (simp [*]; done)), H', ⟨by first | omega | exact Nat.le_refl _⟩, ⟨by repeat (first | (with_reducible first | exact HB.out | apply below_alloc | apply pw_below_drewN | apply below_drew1) | exact HB.out | (with_reducible exact Below.refl _ _))⟩⟩
 case rest =>
  clear HC5; try clear c1
  try clear p1
  try clear q1
  try clear hx1
  try clear qi1
  try clear c2
  try clear p2
  try clear c3
  try clear c7
  try clear c9
  try clear c11
  try clear c13
  try clear p13
  try clear q13
  try clear hx13
  try clear qi13
  try clear c15
  try clear c16
  try clear c16b0
  try clear c16b1
  try clear c17
  try clear c17b0
  try clear c17b1
  try clear c18
  try clear c18b0
  try clear c19
  try clear c19b0
  try clear c29
  try clear hx134_0
  try clear hx135_0
  try clear hx135_1
  try clear hx135_2
  try clear hx135_3
  try clear hx135_4
  try clear p134
  try clear p135
  try clear q134
  try clear q135
  obtain ⟨kq, x55_4, rfl, HA, HJ4, HB⟩ := hcut; cases kq with
  | zero => exact absurd HA.out (by simp [impl_ArriveBy.j0])
  | succ kj4 =>
   have H := HA.out; clear HA; simp only [impl_ArriveBy.j0] at H; by_cases c31 : x55_4 = true
   ·subst c31; have H1 : (some (0, false)) = some (r1, r2) := by rw [if_pos rfl] at H; exact H
    clear H; have H := H1; clear H1; simp only [Option.some.injEq, Prod.mk.injEq] at H; obtain ⟨rfl, rfl⟩ := H; go_wp2; go_ret2; exact ⟨by first | rfl | (simp [errW_none, errW_some] <;> rfl) | (simp [*, errW_none, errW_some] <;> rfl), by repeat (first | (with_reducible first | exact HB.out | apply below_alloc | apply pw_below_drewN | apply below_drew1) | exact HB.out | (with_reducible exact Below.refl _ _))⟩
   ·replace c31 := Bool.eq_false_iff.mpr c31; subst c31; have H1 : (impl_ArriveBy.l0 kj4 l0 a2 l3 (l3.length : Int) 0) = some (r1, r2) := by rw [if_neg (show ¬ (false = true) by decide)] at H; exact H
    clear H; have H := H1; clear H1; have H' := Aside0.mk H; clear H; go_wp2
    go_loopg [2, 58] kj4 (fun kq v2 v58 w' => ∃ (x2_2 : Int) (x58_2 : Int), v2 = .int .i64 x2_2 ∧ v58 = .int .i64 x58_2 ∧ Aside0 (impl_ArriveBy.l0 kq l0 x2_2 l3 (l3.length : Int) x58_2 = some (r1, r2)) ∧ Aside0 (kq ≤ kj4) ∧ Aside0 (Below w.heap.size w w'))
    case atStart => exact ⟨(a2), (0), (by first | rfl | (simp; done) | (simp [*]; done)), (by first | rfl | (simp; done) | (simp [*]; done)), H', ⟨Nat.le_refl _⟩, ⟨by repeat (first | (with_reducible first | exact HB.out | apply below_alloc | apply pw_below_drewN | apply below_drew1) | exact HB.out | (with_reducible exact Below.refl _ _))⟩⟩
    case round =>
     clear H'; try clear c1
     try clear p1
     try clear q1
     try clear hx1
     try clear qi1
     try clear c2
     try clear p2
     try clear c3
     try clear c7
     try clear c9
     try clear c11
     try clear c13
     try clear p13
     try clear q13
     try clear hx13
     try clear qi13
     try clear c15
     try clear c16
     try clear c16b0
     try clear c16b1
     try clear c17
     try clear c17b0
     try clear c17b1
     try clear c18
     try clear c18b0
     try clear c19
     try clear c19b0
     try clear c29
     try clear c31
     try clear hx134_0
     try clear hx135_0
     try clear hx135_1
     try clear hx135_2
     try clear hx135_3
     try clear hx135_4
     try clear p1
     try clear p13
     try clear p134
     try clear p135
     try clear p2
     try clear q1
     try clear q13
     try clear q134
     try clear q135
     obtain ⟨x2_2, x58_2, rfl, rfl, HA, HK2, HB⟩ := hrel; cases gk with
     | zero => exact absurd HA.out (by simp [impl_ArriveBy.l0])
     | succ k2 =>
      have H := HA.out; clear HA; simp only [impl_ArriveBy.l0] at H; by_cases c32 : x58_2 < (l3.length : Int)
      ·rw [if_pos c32] at H; have c32b0 : decide (x58_2 < (l3.length : Int)) = true := decide_eq_true c32; clear c32; by_cases c33 : 0 ≤ x58_2
       ·rw [if_pos c33] at H; have c33b0 : decide (0 ≤ x58_2) = true := decide_eq_true c33; clear c33; by_cases c34 : x58_2 < (l3.length : Int)
        ·rw [if_pos c34] at H; have c34b0 : decide (x58_2 < (l3.length : Int)) = true := decide_eq_true c34; clear c34; by_cases c35 : 0 ≤ (rd l3 x58_2)
         ·rw [if_pos c35] at H; have c35b0 : decide (0 ≤ (rd l3 x58_2)) = true := decide_eq_true c35; clear c35; by_cases c36 : (rd l3 x58_2) < (l0.length : Int)
          ·rw [if_pos c36] at H; have c36b0 : decide ((rd l3 x58_2) < (l0.length : Int)) = true := decide_eq_true c36; clear c36; replace H := Option.bind_eq_some_iff.mp H; obtain ⟨⟨t138, t139⟩, A370, H⟩ := H; replace H : (if t139 = true then (impl_ArriveBy.l0 k2 l0 t138 l3 (l3.length : Int) (wrap64 (x58_2 + 1))) else (some (0, false))) = some (r1, r2) := H; have A37 := Aside0.mk A370; clear A370; by_cases c38 : t139 = true
           ·subst c38; have H1 : (impl_ArriveBy.l0 k2 l0 t138 l3 (l3.length : Int) (wrap64 (x58_2 + 1))) = some (r1, r2) := by rw [if_pos rfl] at H; exact H
            clear H; have H := H1; clear H1; have H' := Aside0.mk H; clear H; have p136 : 0 ≤ (x58_2 : Int) := of_decide_eq_true (by first | (with_reducible assumption) | assumption); have q136 : x58_2 < (l3.length : Int) := of_decide_eq_true (by first | (with_reducible assumption) | assumption); obtain ⟨ad136, e136, hx136_0⟩ := Kd.at_int HR3.out x58_2 p136 q136; cases e136; replace hx136_0 := (HB.out.cell (World.block_lt_of_cell? w _ hx136_0)).trans hx136_0; replace p136 := eq_true p136; replace q136 := eq_true q136; have p137 : 0 ≤ ((rd l3 x58_2) : Int) := of_decide_eq_true (by first | (with_reducible assumption) | assumption); have q137 : (rd l3 x58_2) < (l0.length : Int) := of_decide_eq_true (by first | (with_reducible assumption) | assumption); obtain ⟨ad137, e137, hx137_0, hx137_1, hx137_2, hx137_3, hx137_4⟩ := at_T53 HR0.out (rd l3 x58_2) p137 q137; cases e137; replace hx137_0 := (HB.out.cell (World.block_lt_of_cell? w _ hx137_0)).trans hx137_0; replace hx137_1 := (HB.out.cell (World.block_lt_of_cell? w _ hx137_1)).trans hx137_1; replace hx137_2 := (HB.out.cell (World.block_lt_of_cell? w _ hx137_2)).trans hx137_2; replace hx137_3 := (HB.out.cell (World.block_lt_of_cell? w _ hx137_3)).trans hx137_3; replace hx137_4 := (HB.out.cell (World.block_lt_of_cell? w _ hx137_4)).trans hx137_4; replace p137 := eq_true p137; replace q137 := eq_true q137; go_wp2_with (first | ((with_reducible refine gate_callee (f := 64) rfl ?_); refine goesL_ (some 68) rfl rfl Try.func64 (by kernel_rfl) rfl #[.agg #[.int .i64 ((rd_T53 l0 (rd l3 x58_2)).f0), .int .i64 ((rd_T53 l0 (rd l3 x58_2)).f1), .int .i64 ((rd_T53 l0 (rd l3 x58_2)).f2), .int .i64 ((rd_T53 l0 (rd l3 x58_2)).f3), .int .i64 ((rd_T53 l0 (rd l3 x58_2)).f4)], .int .i64 x2_2] rfl (by (try simp only [List.map_toArray, List.map_cons, List.map_nil]); first | done | rfl | (simp only [List.length_drop, List.length_take]; rfl)) ?_; (with_reducible refine (impl_Contact_by.calls ((rd_T53 l0 (rd l3 x58_2)).f0) ((rd_T53 l0 (rd l3 x58_2)).f1) ((rd_T53 l0 (rd l3 x58_2)).f2) ((rd_T53 l0 (rd l3 x58_2)).f3) ((rd_T53 l0 (rd l3 x58_2)).f4) x2_2 t138 true _ A37.out).mono ?_); rintro e w39 ⟨rfl, hb⟩; refine ⟨_, rfl, ?_⟩; have n0_ := Aside0.mk (below_step (by repeat (first | (with_reducible first | exact HB.out | apply below_alloc | apply pw_below_drewN | apply below_drew1) | exact HB.out | (with_reducible exact Below.refl _ _))) hb); clear HB; have HB := n0_; clear n0_; (try clear hb); (try clear hb2); (try clear hk); (try clear hi))); go_roundg k2
            case measure => have := HJ4.out; have := HK2.out; omega
            case rel => exact ⟨(t138), (wrap64 (x58_2 + 1)), (by first | rfl | (simp; done) | (simp [*]; done)), (by first | rfl | (simp; done) | (simp [*]; done)), H', ⟨by have := HJ4.out; have := HK2.out; omega⟩, ⟨by repeat (first | (with_reducible first | exact HB.out | apply below_alloc | apply pw_below_drewN | apply below_drew1) | exact HB.out | (with_reducible exact Below.refl _ _))⟩⟩
           ·replace c38 := Bool.eq_false_iff.mpr c38; subst c38; have H1 : (some (0, false)) = some (r1, r2) := by rw [if_neg (show ¬ (false = true) by decide)] at H; exact H
            clear H; have H := H1; clear H1; simp only [Option.some.injEq, Prod.mk.injEq] at H; obtain ⟨rfl, rfl⟩ := H; have p136 : 0 ≤ (x58_2 : Int) := of_decide_eq_true (by first | (with_reducible assumption) | assumption); have q136 : x58_2 < (l3.length : Int) := of_decide_eq_true (by first | (with_reducible assumption) | assumption); obtain ⟨ad136, e136, hx136_0⟩ := Kd.at_int HR3.out x58_2 p136 q136; cases e136; replace hx136_0 := (HB.out.cell (World.block_lt_of_cell? w _ hx136_0)).trans hx136_0; replace p136 := eq_true p136; replace q136 := eq_true q136; have p137 : 0 ≤ ((rd l3 x58_2) : Int) := of_decide_eq_true (by first | (with_reducible assumption) | assumption); have q137 : (rd l3 x58_2) < (l0.length : Int) := of_decide_eq_true (by first | (with_reducible assumption) | assumption); obtain ⟨ad137, e137, hx137_0, hx137_1, hx137_2, hx137_3, hx137_4⟩ := at_T53 HR0.out (rd l3 x58_2) p137 q137; cases e137; replace hx137_0 := (HB.out.cell (World.block_lt_of_cell? w _ hx137_0)).trans hx137_0; replace hx137_1 := (HB.out.cell (World.block_lt_of_cell? w _ hx137_1)).trans hx137_1; replace hx137_2 := (HB.out.cell (World.block_lt_of_cell? w _ hx137_2)).trans hx137_2; replace hx137_3 := (HB.out.cell (World.block_lt_of_cell? w _ hx137_3)).trans hx137_3; replace hx137_4 := (HB.out.cell (World.block_lt_of_cell? w _ hx137_4)).trans hx137_4; replace p137 := eq_true p137; replace q137 := eq_true q137; go_wp2_with (first | ((with_reducible refine gate_callee (f := 64) rfl ?_); refine goesL_ (some 68) rfl rfl Try.func64 (by kernel_rfl) rfl #[.agg #[.int .i64 ((rd_T53 l0 (rd l3 x58_2)).f0), .int .i64 ((rd_T53 l0 (rd l3 x58_2)).f1), .int .i64 ((rd_T53 l0 (rd l3 x58_2)).f2), .int .i64 ((rd_T53 l0 (rd l3 x58_2)).f3), .int .i64 ((rd_T53 l0 (rd l3 x58_2)).f4)], .int .i64 x2_2] rfl (by (try simp only [List.map_toArray, List.map_cons, List.map_nil]); first | done | rfl | (simp only [List.length_drop, List.length_take]; rfl)) ?_; (with_reducible refine (impl_Contact_by.calls ((rd_T53 l0 (rd l3 x58_2)).f0) ((rd_T53 l0 (rd l3 x58_2)).f1) ((rd_T53 l0 (rd l3 x58_2)).f2) ((rd_T53 l0 (rd l3 x58_2)).f3) ((rd_T53 l0 (rd l3 x58_2)).f4) x2_2 t138 false _ A37.out).mono ?_); rintro e w40 ⟨rfl, hb⟩; refine ⟨_, rfl, ?_⟩; have n0_ := Aside0.mk (below_step (by repeat (first | (with_reducible first | exact HB.out | apply below_alloc | apply pw_below_drewN | apply below_drew1) | exact HB.out | (with_reducible exact Below.refl _ _))) hb); clear HB; have HB := n0_; clear n0_; (try clear hb); (try clear hb2); (try clear hk); (try clear hi))); go_ret2; exact ⟨by first | rfl | (simp [errW_none, errW_some] <;> rfl) | (simp [*, errW_none, errW_some] <;> rfl), by repeat (first | (with_reducible first | exact HB.out | apply below_alloc | apply pw_below_drewN | apply below_drew1) | exact HB.out | (with_reducible exact Below.refl _ _))⟩
          ·rw [if_neg c36] at H; exact absurd H (by simp)
         ·rw [if_neg c35] at H; exact absurd H (by simp)
        ·rw [if_neg c34] at H; exact absurd H (by simp)
       ·rw [if_neg c33] at H; exact absurd H (by simp)
      ·rw [if_neg c32] at H; have c32b0 : decide (x58_2 < (l3.length : Int)) = false := decide_eq_false c32; clear c32; simp only [Option.some.injEq, Prod.mk.injEq] at H; obtain ⟨rfl, rfl⟩ := H; go_wp2; go_ret2; exact ⟨by first | rfl | (simp [errW_none, errW_some] <;> rfl) | (simp [*, errW_none, errW_some] <;> rfl), by repeat (first | (with_reducible first | exact HB.out | apply below_alloc | apply pw_below_drewN | apply below_drew1) | exact HB.out | (with_reducible exact Below.refl _ _))⟩
end Go.Proofs.Ytckndinhkkhonaa.QFnEarliest
