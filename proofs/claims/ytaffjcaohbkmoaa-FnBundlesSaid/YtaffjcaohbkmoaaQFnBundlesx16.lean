import Derived.Test.YtaffjcaohbkmoaaQFnBundlesx0
import Derived.Test.YtaffjcaohbkmoaaQFnBundlesx14
import Derived.Test.YtaffjcaohbkmoaaSq
namespace Go.Proofs.Ytaffjcaohbkmoaa.QFnBundles
open Go.RowKit Go.Proofs.YtaffjcaohbkmoaaW.PrintWords Go.Proofs.YtaffjcaohbkmoaaW.PrintLast Go.Proofs.YtaffjcaohbkmoaaW.PrintMore
attribute [local go_sem] max2_int min2_int max_two min_two max_three min_three max_four min_four   -- for this text's walks alone
set_option linter.unusedVariables false
set_option linter.unusedSimpArgs false
mutual
def spec_l2Value.j0 : Nat → List (S67) → Int → Int → Int → Bool → Int → Int → ByteArray → Int → Option (Int × Int × Bool)
 | 0, _, _, _, _, _, _, _, _, _ => none
 | k + 1, x0, x1, x2, x26, x45, x410000, x410001, x410002, x410003 => if x45 = true then (spec_l2Value.l0 k x1 x2 0 x410000 x410001 x410002 x410003) else (if x26 = 4 then (if x410001 = 0 then (if x410002.toList = ([] : List UInt8) then (if x410003 < 0 then (spec_l2Value.j2 k x0 x1 x2 true x410000 x410001 x410002 x410003) else (spec_l2Value.j2 k x0 x1 x2 (x2 == 5) x410000 x410001 x410002 x410003)) else (spec_l2Value.j2 k x0 x1 x2 true x410000 x410001 x410002 x410003)) else (spec_l2Value.j2 k x0 x1 x2 true x410000 x410001 x410002 x410003)) else (some (0, 0, false)))
def spec_l2Value.l0 : Nat → Int → Int → Int → Int → Int → ByteArray → Int → Option (Int × Int × Bool)
 | 0, _, _, _, _, _, _, _ => none
 | k + 1, x1, x2, x10, x410000, x410001, x410002, x410003 => if x10 < (x410002.size : Int) then (if x410000 = 3 then (if 0 ≤ x10 then (if (bt x410002 x10) < 32 then (some (0, 0, false)) else (if (bt x410002 x10) > 126 then (some (0, 0, false)) else (spec_l2Value.l0 k x1 x2 (wrap64 (x10 + 1)) x410000 x410001 x410002 x410003))) else (none)) else (spec_l2Value.l0 k x1 x2 (wrap64 (x10 + 1)) x410000 x410001 x410002 x410003)) else (if (x410002.size : Int) ≤ 60 then (if x410001 = 0 then (some (wrap64 (x1 + 1), x2, (x410003 == 0))) else (some (wrap64 (x1 + 1), x2, false))) else (some (wrap64 (x1 + 1), x2, false)))
def spec_l2Value.j2 : Nat → List (S67) → Int → Int → Bool → Int → Int → ByteArray → Int → Option (Int × Int × Bool)
 | 0, _, _, _, _, _, _, _, _ => none
 | k + 1, x0, x1, x2, x107, x410000, x410001, x410002, x410003 => if x107 = true then (some (0, 0, false)) else (spec_l2Value.l1 k x0 x2 (wrap64 (x2 + 1)) (wrap64 (x1 + 1)) 0 x410000 x410001 x410002 x410003)
def spec_l2Value.l1 : Nat → List (S67) → Int → Int → Int → Int → Int → Int → ByteArray → Int → Option (Int × Int × Bool)
 | 0, _, _, _, _, _, _, _, _, _ => none
 | k + 1, x0, x2, x11, x12, x13, x410000, x410001, x410002, x410003 => if x13 < x410003 then ((spec_l2Value.f k x0 x12 (wrap64 (x2 + 1))).bind fun bt411 => (if bt411.2.2 = true then (if bt411.2.1 > x11 then (spec_l2Value.l1 k x0 x2 bt411.2.1 bt411.1 (wrap64 (x13 + 1)) x410000 x410001 x410002 x410003) else (spec_l2Value.l1 k x0 x2 x11 bt411.1 (wrap64 (x13 + 1)) x410000 x410001 x410002 x410003)) else (some (0, 0, false)))) else (some (x12, x11, true))
def spec_l2Value.f : Nat → List (S67) → Int → Int → Option (Int × Int × Bool)
 | 0, _, _, _ => none
 | k + 1, l0, a1, a2 => if a1 ≥ (l0.length : Int) then (some (0, 0, false)) else (if 0 ≤ a1 then (if a1 < (l0.length : Int) then (if ((rd_T67 l0 a1).f0) = 1 then ((spec_l1Value.f ((rd_T67 l0 a1).f1)).bind fun t410 => (if t410 = true then (if ((rd_T67 l0 a1).f2).toList = ([] : List UInt8) then (some (wrap64 (a1 + 1), a2, (((rd_T67 l0 a1).f3) == 0))) else (some (wrap64 (a1 + 1), a2, false))) else (some (wrap64 (a1 + 1), a2, false)))) else (if ((rd_T67 l0 a1).f0) = 2 then (spec_l2Value.j0 k l0 a1 a2 ((rd_T67 l0 a1).f0) (((rd_T67 l0 a1).f0) == 2) ((rd_T67 l0 a1).f0) ((rd_T67 l0 a1).f1) ((rd_T67 l0 a1).f2) ((rd_T67 l0 a1).f3)) else (spec_l2Value.j0 k l0 a1 a2 ((rd_T67 l0 a1).f0) (((rd_T67 l0 a1).f0) == 3) ((rd_T67 l0 a1).f0) ((rd_T67 l0 a1).f1) ((rd_T67 l0 a1).f2) ((rd_T67 l0 a1).f3)))) else (none)) else (none))
end
theorem spec_l2Value.mono_l : ∀ k, (∀ y0 y1 y2, LeO (spec_l2Value.f k y0 y1 y2) (spec_l2Value.f (k + 1) y0 y1 y2)) ∧ (∀ y0 y1 y2 y3 y4 y5 y6 y7 y8, LeO (spec_l2Value.j0 k y0 y1 y2 y3 y4 y5 y6 y7 y8) (spec_l2Value.j0 (k + 1) y0 y1 y2 y3 y4 y5 y6 y7 y8)) ∧ (∀ y0 y1 y2 y3 y4 y5 y6, LeO (spec_l2Value.l0 k y0 y1 y2 y3 y4 y5 y6) (spec_l2Value.l0 (k + 1) y0 y1 y2 y3 y4 y5 y6)) ∧ (∀ y0 y1 y2 y3 y4 y5 y6 y7, LeO (spec_l2Value.j2 k y0 y1 y2 y3 y4 y5 y6 y7) (spec_l2Value.j2 (k + 1) y0 y1 y2 y3 y4 y5 y6 y7)) ∧ (∀ y0 y1 y2 y3 y4 y5 y6 y7 y8, LeO (spec_l2Value.l1 k y0 y1 y2 y3 y4 y5 y6 y7 y8) (spec_l2Value.l1 (k + 1) y0 y1 y2 y3 y4 y5 y6 y7 y8))
 | 0 => ⟨fun _ _ _ r h => by simp [spec_l2Value.f] at h, fun _ _ _ _ _ _ _ _ _ r h => by simp [spec_l2Value.j0] at h, fun _ _ _ _ _ _ _ r h => by simp [spec_l2Value.l0] at h, fun _ _ _ _ _ _ _ _ r h => by simp [spec_l2Value.j2] at h, fun _ _ _ _ _ _ _ _ _ r h => by simp [spec_l2Value.l1] at h⟩
 | k + 1 => by
  obtain ⟨ih0, ih1, ih2, ih3, ih4⟩ := spec_l2Value.mono_l k; refine ⟨?_, ?_, ?_, ?_, ?_⟩
  ·intro y0 y1 y2; unfold spec_l2Value.f
   repeat' first
   | (with_reducible exact ih0 _ _ _)
   | (with_reducible exact ih1 _ _ _ _ _ _ _ _ _)
   | (with_reducible exact ih2 _ _ _ _ _ _ _)
   | (with_reducible exact ih3 _ _ _ _ _ _ _ _)
   | (with_reducible exact ih4 _ _ _ _ _ _ _ _ _)
   | (with_reducible exact LeO.refl _)
   | (with_reducible exact LeO.none _)
   | (with_reducible refine LeO.ite ?_ ?_)
   | (with_reducible refine LeO.bind ?_ (fun _ => ?_))
   | exact ih0 _ _ _
   | exact ih1 _ _ _ _ _ _ _ _ _
   | exact ih2 _ _ _ _ _ _ _
   | exact ih3 _ _ _ _ _ _ _ _
   | exact ih4 _ _ _ _ _ _ _ _ _
   | exact LeO.none _
   | refine LeO.ite ?_ ?_
   | refine LeO.bind ?_ (fun _ => ?_)
  ·intro y0 y1 y2 y3 y4 y5 y6 y7 y8; unfold spec_l2Value.j0
   repeat' first
   | (with_reducible exact ih0 _ _ _)
   | (with_reducible exact ih1 _ _ _ _ _ _ _ _ _)
   | (with_reducible exact ih2 _ _ _ _ _ _ _)
   | (with_reducible exact ih3 _ _ _ _ _ _ _ _)
   | (with_reducible exact ih4 _ _ _ _ _ _ _ _ _)
   | (with_reducible exact LeO.refl _)
   | (with_reducible exact LeO.none _)
   | (with_reducible refine LeO.ite ?_ ?_)
   | (with_reducible refine LeO.bind ?_ (fun _ => ?_))
   | exact ih0 _ _ _
   | exact ih1 _ _ _ _ _ _ _ _ _
   | exact ih2 _ _ _ _ _ _ _
   | exact ih3 _ _ _ _ _ _ _ _
   | exact ih4 _ _ _ _ _ _ _ _ _
   | exact LeO.none _
   | refine LeO.ite ?_ ?_
   | refine LeO.bind ?_ (fun _ => ?_)
  ·intro y0 y1 y2 y3 y4 y5 y6; unfold spec_l2Value.l0
   repeat' first
   | (with_reducible exact ih0 _ _ _)
   | (with_reducible exact ih1 _ _ _ _ _ _ _ _ _)
   | (with_reducible exact ih2 _ _ _ _ _ _ _)
   | (with_reducible exact ih3 _ _ _ _ _ _ _ _)
   | (with_reducible exact ih4 _ _ _ _ _ _ _ _ _)
   | (with_reducible exact LeO.refl _)
   | (with_reducible exact LeO.none _)
   | (with_reducible refine LeO.ite ?_ ?_)
   | (with_reducible refine LeO.bind ?_ (fun _ => ?_))
   | exact ih0 _ _ _
   | exact ih1 _ _ _ _ _ _ _ _ _
   | exact ih2 _ _ _ _ _ _ _
   | exact ih3 _ _ _ _ _ _ _ _
   | exact ih4 _ _ _ _ _ _ _ _ _
   | exact LeO.none _
   | refine LeO.ite ?_ ?_
   | refine LeO.bind ?_ (fun _ => ?_)
  ·intro y0 y1 y2 y3 y4 y5 y6 y7; unfold spec_l2Value.j2
   repeat' first
   | (with_reducible exact ih0 _ _ _)
   | (with_reducible exact ih1 _ _ _ _ _ _ _ _ _)
   | (with_reducible exact ih2 _ _ _ _ _ _ _)
   | (with_reducible exact ih3 _ _ _ _ _ _ _ _)
   | (with_reducible exact ih4 _ _ _ _ _ _ _ _ _)
   | (with_reducible exact LeO.refl _)
   | (with_reducible exact LeO.none _)
   | (with_reducible refine LeO.ite ?_ ?_)
   | (with_reducible refine LeO.bind ?_ (fun _ => ?_))
   | exact ih0 _ _ _
   | exact ih1 _ _ _ _ _ _ _ _ _
   | exact ih2 _ _ _ _ _ _ _
   | exact ih3 _ _ _ _ _ _ _ _
   | exact ih4 _ _ _ _ _ _ _ _ _
   | exact LeO.none _
   | refine LeO.ite ?_ ?_
   | refine LeO.bind ?_ (fun _ => ?_)
  ·intro y0 y1 y2 y3 y4 y5 y6 y7 y8; unfold spec_l2Value.l1
   repeat' first
   | (with_reducible exact ih0 _ _ _)
   | (with_reducible exact ih1 _ _ _ _ _ _ _ _ _)
   | (with_reducible exact ih2 _ _ _ _ _ _ _)
   | (with_reducible exact ih3 _ _ _ _ _ _ _ _)
   | (with_reducible exact ih4 _ _ _ _ _ _ _ _ _)
   | (with_reducible exact LeO.refl _)
   | (with_reducible exact LeO.none _)
   | (with_reducible refine LeO.ite ?_ ?_)
   | (with_reducible refine LeO.bind ?_ (fun _ => ?_))
   | exact ih0 _ _ _
   | exact ih1 _ _ _ _ _ _ _ _ _
   | exact ih2 _ _ _ _ _ _ _
   | exact ih3 _ _ _ _ _ _ _ _
   | exact ih4 _ _ _ _ _ _ _ _ _
   | exact LeO.none _
   | refine LeO.ite ?_ ?_
   | refine LeO.bind ?_ (fun _ => ?_)
theorem spec_l2Value.mono : ∀ a0 a1 a2 k, LeO (spec_l2Value.f k a0 a1 a2) (spec_l2Value.f (k + 1) a0 a1 a2) := by
 intro a0 a1 a2 k; obtain ⟨ih0, ih1, ih2, ih3, ih4⟩ := spec_l2Value.mono_l k; exact ih0 a0 a1 a2
set_option maxHeartbeats 8000000 in
set_option maxRecDepth 100000 in
theorem spec_l2Value.calls (k : Nat) : ∀ (A0 : Option Addr) (c0 : Nat) (l0 : List (S67)) (a1 : Int) (a2 : Int) (r1 : Int) (r2 : Int) (r3 : Bool) (w : World) (hr0 : Kd.C k67 w A0 l0.length l0) (hc0 : l0.length ≤ c0) (h : spec_l2Value.f k l0 a1 a2 = some (r1, r2, r3)),
  Calls Try.prog 97 #[.slice A0 l0.length c0, .int .i64 a1, .int .i64 a2] w fun e w' => e = .returned (.tuple #[.int .i64 r1, .int .i64 r2, .bool r3]) ∧ Below w.heap.size w w' := by
 induction k using Nat.strongRecOn with
 | _ k ih =>
 intro A0 c0 l0 a1 a2 r1 r2 r3 w hr0 hc0 h; cases k with
 | zero => exact absurd h (by simp [spec_l2Value.f])
 | succ k =>
 simp only [spec_l2Value.f] at h; have hu67 := Try.underlying67; have HR0 := Aside0.mk hr0; have HC0 := Aside0.mk hc0; clear hr0 hc0; have HB := Aside0.mk (Below.refl w.heap.size w); have H : (if a1 ≥ (l0.length : Int) then (some (0, 0, false)) else (if 0 ≤ a1 then (if a1 < (l0.length : Int) then (if ((rd_T67 l0 a1).f0) = 1 then ((spec_l1Value.f ((rd_T67 l0 a1).f1)).bind fun t410 => (if t410 = true then (if ((rd_T67 l0 a1).f2).toList = ([] : List UInt8) then (some (wrap64 (a1 + 1), a2, (((rd_T67 l0 a1).f3) == 0))) else (some (wrap64 (a1 + 1), a2, false))) else (some (wrap64 (a1 + 1), a2, false)))) else (if ((rd_T67 l0 a1).f0) = 2 then (spec_l2Value.j0 k l0 a1 a2 ((rd_T67 l0 a1).f0) (((rd_T67 l0 a1).f0) == 2) ((rd_T67 l0 a1).f0) ((rd_T67 l0 a1).f1) ((rd_T67 l0 a1).f2) ((rd_T67 l0 a1).f3)) else (spec_l2Value.j0 k l0 a1 a2 ((rd_T67 l0 a1).f0) (((rd_T67 l0 a1).f0) == 3) ((rd_T67 l0 a1).f0) ((rd_T67 l0 a1).f1) ((rd_T67 l0 a1).f2) ((rd_T67 l0 a1).f3)))) else (none)) else (none))) = some (r1, r2, r3) := h; clear h; by_cases c4 : a1 ≥ (l0.length : Int)
 ·rw [if_pos c4] at H; have c4b0 : decide ((l0.length : Int) ≤ a1) = true := decide_eq_true c4; clear c4; simp only [Option.some.injEq, Prod.mk.injEq] at H; obtain ⟨rfl, rfl, rfl⟩ := H
  go_enter Try.func97, Try.ntmps97
  go_wp2
  repeat (go_quiet (fail); try go_wp2)
  go_ret3; exact ⟨er_, bq_ HB⟩
 ·rw [if_neg c4] at H; have c4b0 : decide ((l0.length : Int) ≤ a1) = false := decide_eq_false c4; clear c4; by_cases c5 : 0 ≤ a1
  ·rw [if_pos c5] at H; have c5b0 : decide (0 ≤ a1) = true := decide_eq_true c5; clear c5; by_cases c6 : a1 < (l0.length : Int)
   ·rw [if_pos c6] at H; have c6b0 : decide (a1 < (l0.length : Int)) = true := decide_eq_true c6; clear c6; by_cases c7 : ((rd_T67 l0 a1).f0) = 1
    ·rw [if_pos c7] at H; have c7b0 : (((rd_T67 l0 a1).f0) == 1) = true := beq_iff_eq.mpr c7; have c7b1 : (((rd_T67 l0 a1).f0) != 1) = false := bne_eq_false_iff_eq.mpr c7; clear c7; replace H := Option.bind_eq_some_iff.mp H; obtain ⟨t410, A80, H⟩ := H; replace H : (if t410 = true then (if ((rd_T67 l0 a1).f2).toList = ([] : List UInt8) then (some (wrap64 (a1 + 1), a2, (((rd_T67 l0 a1).f3) == 0))) else (some (wrap64 (a1 + 1), a2, false))) else (some (wrap64 (a1 + 1), a2, false))) = some (r1, r2, r3) := H; have A8 := Aside0.mk A80; clear A80; by_cases c9 : t410 = true
     ·subst c9; have H1 : (if ((rd_T67 l0 a1).f2).toList = ([] : List UInt8) then (some (wrap64 (a1 + 1), a2, (((rd_T67 l0 a1).f3) == 0))) else (some (wrap64 (a1 + 1), a2, false))) = some (r1, r2, r3) := by rw [if_pos rfl] at H; exact H
      clear H; have H := H1; clear H1; by_cases c10 : ((rd_T67 l0 a1).f2).toList = ([] : List UInt8)
      ·rw [if_pos c10] at H; have c10b0 : (((rd_T67 l0 a1).f2).toList == ([] : List UInt8)) = true := beq_iff_eq.mpr c10; have c10b1 : (((rd_T67 l0 a1).f2).toList != ([] : List UInt8)) = false := bne_eq_false_iff_eq.mpr c10; clear c10; simp only [Option.some.injEq, Prod.mk.injEq] at H; obtain ⟨rfl, rfl, rfl⟩ := H; have p408 : 0 ≤ (a1 : Int) := od_; have q408 : a1 < (l0.length : Int) := od_; obtain ⟨ad408, e408, hx408_0, hx408_1, hx408_2, hx408_3⟩ := at_T67 HR0.out a1 p408 q408; cases e408; replace p408 := eq_true p408; replace q408 := eq_true q408
       go_enter Try.func97, Try.ntmps97
       go_wp2_with (first | ((with_reducible refine gate_dst (N := 9) rfl ?_); refine be_ 9 67 (#[.int .i64 0, .int .i64 0, .string (⟨#[]⟩ : ByteArray), .int .i64 0]) ?_; intro gb409 hg w11 hbox hb; have n0_ := Aside0.mk (bs_ hb); have n1_ := Aside0.mk (hbox); have n2_ := Aside0.mk ((by rw [hg]; exact bz_ : w.heap.size ≤ gb409)); have n3_ := Aside0.mk ((by rw [hg]; exact bz_ : w.heap.size ≤ gb409)); clear HB; have HB := n0_; have BK409 := n1_; have GW409 := n2_; have GE409 := n3_; clear n0_ n1_ n2_ n3_; clear hb hbox hg; obtain ⟨hcz12_0, hcz12_1, hcz12_2, hcz12_3, hfz12_0, hfz12_1, hfz12_2, hfz12_3⟩ := cf4 BK409.out) | (go_at_call 91; (with_reducible refine (spec_l1Value.calls ((rd_T67 l0 a1).f1) true _ A8.out).mono ?_); rintro e w' ⟨rfl, ⟨nd, rfl⟩⟩; (try first | exact ⟨rfl, _, World.drewN_drewN _ _ _⟩ | exact ⟨rfl, _, Eq.trans (World.drewN_drewN _ _ _) (congrArg (World.drewN _) (Nat.add_assoc _ _ _))⟩)))
       repeat (go_quiet (first | ((with_reducible refine gate_dst (N := 9) rfl ?_); refine be_ 9 67 (#[.int .i64 0, .int .i64 0, .string (⟨#[]⟩ : ByteArray), .int .i64 0]) ?_; intro gb409 hg w11 hbox hb; have n0_ := Aside0.mk (bs_ hb); have n1_ := Aside0.mk (hbox); have n2_ := Aside0.mk ((by rw [hg]; exact bz_ : w.heap.size ≤ gb409)); have n3_ := Aside0.mk ((by rw [hg]; exact bz_ : w.heap.size ≤ gb409)); clear HB; have HB := n0_; have BK409 := n1_; have GW409 := n2_; have GE409 := n3_; clear n0_ n1_ n2_ n3_; clear hb hbox hg; obtain ⟨hcz12_0, hcz12_1, hcz12_2, hcz12_3, hfz12_0, hfz12_1, hfz12_2, hfz12_3⟩ := cf4 BK409.out) | (go_at_call 91; (with_reducible refine (spec_l1Value.calls ((rd_T67 l0 a1).f1) true _ A8.out).mono ?_); rintro e w' ⟨rfl, ⟨nd, rfl⟩⟩; (try first | exact ⟨rfl, _, World.drewN_drewN _ _ _⟩ | exact ⟨rfl, _, Eq.trans (World.drewN_drewN _ _ _) (congrArg (World.drewN _) (Nat.add_assoc _ _ _))⟩))); try go_wp2_with (first | ((with_reducible refine gate_dst (N := 9) rfl ?_); refine be_ 9 67 (#[.int .i64 0, .int .i64 0, .string (⟨#[]⟩ : ByteArray), .int .i64 0]) ?_; intro gb409 hg w11 hbox hb; have n0_ := Aside0.mk (bs_ hb); have n1_ := Aside0.mk (hbox); have n2_ := Aside0.mk ((by rw [hg]; exact bz_ : w.heap.size ≤ gb409)); have n3_ := Aside0.mk ((by rw [hg]; exact bz_ : w.heap.size ≤ gb409)); clear HB; have HB := n0_; have BK409 := n1_; have GW409 := n2_; have GE409 := n3_; clear n0_ n1_ n2_ n3_; clear hb hbox hg; obtain ⟨hcz12_0, hcz12_1, hcz12_2, hcz12_3, hfz12_0, hfz12_1, hfz12_2, hfz12_3⟩ := cf4 BK409.out) | (go_at_call 91; (with_reducible refine (spec_l1Value.calls ((rd_T67 l0 a1).f1) true _ A8.out).mono ?_); rintro e w' ⟨rfl, ⟨nd, rfl⟩⟩; (try first | exact ⟨rfl, _, World.drewN_drewN _ _ _⟩ | exact ⟨rfl, _, Eq.trans (World.drewN_drewN _ _ _) (congrArg (World.drewN _) (Nat.add_assoc _ _ _))⟩))))
       go_ret3; exact ⟨er_, bq_ HB⟩
      ·rw [if_neg c10] at H; have c10b0 : (((rd_T67 l0 a1).f2).toList == ([] : List UInt8)) = false := beq_eq_false_iff_ne.mpr c10; have c10b1 : (((rd_T67 l0 a1).f2).toList != ([] : List UInt8)) = true := bne_iff_ne.mpr c10; simp only [Option.some.injEq, Prod.mk.injEq] at H; obtain ⟨rfl, rfl, rfl⟩ := H; have p408 : 0 ≤ (a1 : Int) := od_; have q408 : a1 < (l0.length : Int) := od_; obtain ⟨ad408, e408, hx408_0, hx408_1, hx408_2, hx408_3⟩ := at_T67 HR0.out a1 p408 q408; cases e408; replace p408 := eq_true p408; replace q408 := eq_true q408
       go_enter Try.func97, Try.ntmps97
       go_wp2_with (first | ((with_reducible refine gate_dst (N := 9) rfl ?_); refine be_ 9 67 (#[.int .i64 0, .int .i64 0, .string (⟨#[]⟩ : ByteArray), .int .i64 0]) ?_; intro gb409 hg w13 hbox hb; have n0_ := Aside0.mk (bs_ hb); have n1_ := Aside0.mk (hbox); have n2_ := Aside0.mk ((by rw [hg]; exact bz_ : w.heap.size ≤ gb409)); have n3_ := Aside0.mk ((by rw [hg]; exact bz_ : w.heap.size ≤ gb409)); clear HB; have HB := n0_; have BK409 := n1_; have GW409 := n2_; have GE409 := n3_; clear n0_ n1_ n2_ n3_; clear hb hbox hg; obtain ⟨hcz14_0, hcz14_1, hcz14_2, hcz14_3, hfz14_0, hfz14_1, hfz14_2, hfz14_3⟩ := cf4 BK409.out) | (go_at_call 91; (with_reducible refine (spec_l1Value.calls ((rd_T67 l0 a1).f1) true _ A8.out).mono ?_); rintro e w' ⟨rfl, ⟨nd, rfl⟩⟩; (try first | exact ⟨rfl, _, World.drewN_drewN _ _ _⟩ | exact ⟨rfl, _, Eq.trans (World.drewN_drewN _ _ _) (congrArg (World.drewN _) (Nat.add_assoc _ _ _))⟩)))
       repeat (go_quiet (first | ((with_reducible refine gate_dst (N := 9) rfl ?_); refine be_ 9 67 (#[.int .i64 0, .int .i64 0, .string (⟨#[]⟩ : ByteArray), .int .i64 0]) ?_; intro gb409 hg w13 hbox hb; have n0_ := Aside0.mk (bs_ hb); have n1_ := Aside0.mk (hbox); have n2_ := Aside0.mk ((by rw [hg]; exact bz_ : w.heap.size ≤ gb409)); have n3_ := Aside0.mk ((by rw [hg]; exact bz_ : w.heap.size ≤ gb409)); clear HB; have HB := n0_; have BK409 := n1_; have GW409 := n2_; have GE409 := n3_; clear n0_ n1_ n2_ n3_; clear hb hbox hg; obtain ⟨hcz14_0, hcz14_1, hcz14_2, hcz14_3, hfz14_0, hfz14_1, hfz14_2, hfz14_3⟩ := cf4 BK409.out) | (go_at_call 91; (with_reducible refine (spec_l1Value.calls ((rd_T67 l0 a1).f1) true _ A8.out).mono ?_); rintro e w' ⟨rfl, ⟨nd, rfl⟩⟩; (try first | exact ⟨rfl, _, World.drewN_drewN _ _ _⟩ | exact ⟨rfl, _, Eq.trans (World.drewN_drewN _ _ _) (congrArg (World.drewN _) (Nat.add_assoc _ _ _))⟩))); try go_wp2_with (first | ((with_reducible refine gate_dst (N := 9) rfl ?_); refine be_ 9 67 (#[.int .i64 0, .int .i64 0, .string (⟨#[]⟩ : ByteArray), .int .i64 0]) ?_; intro gb409 hg w13 hbox hb; have n0_ := Aside0.mk (bs_ hb); have n1_ := Aside0.mk (hbox); have n2_ := Aside0.mk ((by rw [hg]; exact bz_ : w.heap.size ≤ gb409)); have n3_ := Aside0.mk ((by rw [hg]; exact bz_ : w.heap.size ≤ gb409)); clear HB; have HB := n0_; have BK409 := n1_; have GW409 := n2_; have GE409 := n3_; clear n0_ n1_ n2_ n3_; clear hb hbox hg; obtain ⟨hcz14_0, hcz14_1, hcz14_2, hcz14_3, hfz14_0, hfz14_1, hfz14_2, hfz14_3⟩ := cf4 BK409.out) | (go_at_call 91; (with_reducible refine (spec_l1Value.calls ((rd_T67 l0 a1).f1) true _ A8.out).mono ?_); rintro e w' ⟨rfl, ⟨nd, rfl⟩⟩; (try first | exact ⟨rfl, _, World.drewN_drewN _ _ _⟩ | exact ⟨rfl, _, Eq.trans (World.drewN_drewN _ _ _) (congrArg (World.drewN _) (Nat.add_assoc _ _ _))⟩))))
       go_ret3; exact ⟨er_, bq_ HB⟩
     ·replace c9 := Bool.eq_false_iff.mpr c9; subst c9; have H1 : (some (wrap64 (a1 + 1), a2, false)) = some (r1, r2, r3) := by rw [if_neg (show ¬ (false = true) by decide)] at H; exact H
      clear H; have H := H1; clear H1; simp only [Option.some.injEq, Prod.mk.injEq] at H; obtain ⟨rfl, rfl, rfl⟩ := H; have p408 : 0 ≤ (a1 : Int) := od_; have q408 : a1 < (l0.length : Int) := od_; obtain ⟨ad408, e408, hx408_0, hx408_1, hx408_2, hx408_3⟩ := at_T67 HR0.out a1 p408 q408; cases e408; replace p408 := eq_true p408; replace q408 := eq_true q408
      go_enter Try.func97, Try.ntmps97
      go_wp2_with (first | ((with_reducible refine gate_dst (N := 9) rfl ?_); refine be_ 9 67 (#[.int .i64 0, .int .i64 0, .string (⟨#[]⟩ : ByteArray), .int .i64 0]) ?_; intro gb409 hg w15 hbox hb; have n0_ := Aside0.mk (bs_ hb); have n1_ := Aside0.mk (hbox); have n2_ := Aside0.mk ((by rw [hg]; exact bz_ : w.heap.size ≤ gb409)); have n3_ := Aside0.mk ((by rw [hg]; exact bz_ : w.heap.size ≤ gb409)); clear HB; have HB := n0_; have BK409 := n1_; have GW409 := n2_; have GE409 := n3_; clear n0_ n1_ n2_ n3_; clear hb hbox hg; obtain ⟨hcz16_0, hcz16_1, hcz16_2, hcz16_3, hfz16_0, hfz16_1, hfz16_2, hfz16_3⟩ := cf4 BK409.out) | (go_at_call 91; (with_reducible refine (spec_l1Value.calls ((rd_T67 l0 a1).f1) false _ A8.out).mono ?_); rintro e w' ⟨rfl, ⟨nd, rfl⟩⟩; (try first | exact ⟨rfl, _, World.drewN_drewN _ _ _⟩ | exact ⟨rfl, _, Eq.trans (World.drewN_drewN _ _ _) (congrArg (World.drewN _) (Nat.add_assoc _ _ _))⟩)))
      repeat (go_quiet (first | ((with_reducible refine gate_dst (N := 9) rfl ?_); refine be_ 9 67 (#[.int .i64 0, .int .i64 0, .string (⟨#[]⟩ : ByteArray), .int .i64 0]) ?_; intro gb409 hg w15 hbox hb; have n0_ := Aside0.mk (bs_ hb); have n1_ := Aside0.mk (hbox); have n2_ := Aside0.mk ((by rw [hg]; exact bz_ : w.heap.size ≤ gb409)); have n3_ := Aside0.mk ((by rw [hg]; exact bz_ : w.heap.size ≤ gb409)); clear HB; have HB := n0_; have BK409 := n1_; have GW409 := n2_; have GE409 := n3_; clear n0_ n1_ n2_ n3_; clear hb hbox hg; obtain ⟨hcz16_0, hcz16_1, hcz16_2, hcz16_3, hfz16_0, hfz16_1, hfz16_2, hfz16_3⟩ := cf4 BK409.out) | (go_at_call 91; (with_reducible refine (spec_l1Value.calls ((rd_T67 l0 a1).f1) false _ A8.out).mono ?_); rintro e w' ⟨rfl, ⟨nd, rfl⟩⟩; (try first | exact ⟨rfl, _, World.drewN_drewN _ _ _⟩ | exact ⟨rfl, _, Eq.trans (World.drewN_drewN _ _ _) (congrArg (World.drewN _) (Nat.add_assoc _ _ _))⟩))); try go_wp2_with (first | ((with_reducible refine gate_dst (N := 9) rfl ?_); refine be_ 9 67 (#[.int .i64 0, .int .i64 0, .string (⟨#[]⟩ : ByteArray), .int .i64 0]) ?_; intro gb409 hg w15 hbox hb; have n0_ := Aside0.mk (bs_ hb); have n1_ := Aside0.mk (hbox); have n2_ := Aside0.mk ((by rw [hg]; exact bz_ : w.heap.size ≤ gb409)); have n3_ := Aside0.mk ((by rw [hg]; exact bz_ : w.heap.size ≤ gb409)); clear HB; have HB := n0_; have BK409 := n1_; have GW409 := n2_; have GE409 := n3_; clear n0_ n1_ n2_ n3_; clear hb hbox hg; obtain ⟨hcz16_0, hcz16_1, hcz16_2, hcz16_3, hfz16_0, hfz16_1, hfz16_2, hfz16_3⟩ := cf4 BK409.out) | (go_at_call 91; (with_reducible refine (spec_l1Value.calls ((rd_T67 l0 a1).f1) false _ A8.out).mono ?_); rintro e w' ⟨rfl, ⟨nd, rfl⟩⟩; (try first | exact ⟨rfl, _, World.drewN_drewN _ _ _⟩ | exact ⟨rfl, _, Eq.trans (World.drewN_drewN _ _ _) (congrArg (World.drewN _) (Nat.add_assoc _ _ _))⟩))))
      go_ret3; exact ⟨er_, bq_ HB⟩
    ·rw [if_neg c7] at H; have c7b0 : (((rd_T67 l0 a1).f0) == 1) = false := beq_eq_false_iff_ne.mpr c7; have c7b1 : (((rd_T67 l0 a1).f0) != 1) = true := bne_iff_ne.mpr c7; have HC17 := Aside0.mk H; clear H; have p408 : 0 ≤ (a1 : Int) := od_; have q408 : a1 < (l0.length : Int) := od_; obtain ⟨ad408, e408, hx408_0, hx408_1, hx408_2, hx408_3⟩ := at_T67 HR0.out a1 p408 q408; cases e408; replace p408 := eq_true p408; replace q408 := eq_true q408
     go_enter Try.func97, Try.ntmps97
     go_upto_if 45 with (first | ((with_reducible refine gate_dst (N := 9) rfl ?_); refine be_ 9 67 (#[.int .i64 0, .int .i64 0, .string (⟨#[]⟩ : ByteArray), .int .i64 0]) ?_; intro gb409 hg w18 hbox hb; have n0_ := Aside0.mk (bs_ hb); have n1_ := Aside0.mk (hbox); have n2_ := Aside0.mk ((by rw [hg]; exact bz_ : w.heap.size ≤ gb409)); have n3_ := Aside0.mk ((by rw [hg]; exact bz_ : w.heap.size ≤ gb409)); clear HB; have HB := n0_; have BK409 := n1_; have GW409 := n2_; have GE409 := n3_; clear n0_ n1_ n2_ n3_; clear hb hbox hg; obtain ⟨hcz19_0, hcz19_1, hcz19_2, hcz19_3, hfz19_0, hfz19_1, hfz19_2, hfz19_3⟩ := cf4 BK409.out))
     repeat (go_quiet (first | ((with_reducible refine gate_dst (N := 9) rfl ?_); refine be_ 9 67 (#[.int .i64 0, .int .i64 0, .string (⟨#[]⟩ : ByteArray), .int .i64 0]) ?_; intro gb409 hg w18 hbox hb; have n0_ := Aside0.mk (bs_ hb); have n1_ := Aside0.mk (hbox); have n2_ := Aside0.mk ((by rw [hg]; exact bz_ : w.heap.size ≤ gb409)); have n3_ := Aside0.mk ((by rw [hg]; exact bz_ : w.heap.size ≤ gb409)); clear HB; have HB := n0_; have BK409 := n1_; have GW409 := n2_; have GE409 := n3_; clear n0_ n1_ n2_ n3_; clear hb hbox hg; obtain ⟨hcz19_0, hcz19_1, hcz19_2, hcz19_3, hfz19_0, hfz19_1, hfz19_2, hfz19_3⟩ := cf4 BK409.out)); go_upto_if 45 with (first | ((with_reducible refine gate_dst (N := 9) rfl ?_); refine be_ 9 67 (#[.int .i64 0, .int .i64 0, .string (⟨#[]⟩ : ByteArray), .int .i64 0]) ?_; intro gb409 hg w18 hbox hb; have n0_ := Aside0.mk (bs_ hb); have n1_ := Aside0.mk (hbox); have n2_ := Aside0.mk ((by rw [hg]; exact bz_ : w.heap.size ≤ gb409)); have n3_ := Aside0.mk ((by rw [hg]; exact bz_ : w.heap.size ≤ gb409)); clear HB; have HB := n0_; have BK409 := n1_; have GW409 := n2_; have GE409 := n3_; clear n0_ n1_ n2_ n3_; clear hb hbox hg; obtain ⟨hcz19_0, hcz19_1, hcz19_2, hcz19_3, hfz19_0, hfz19_1, hfz19_2, hfz19_3⟩ := cf4 BK409.out)))
     (try simp only [Act.put, List.setIfInBounds_toArray, List.set_cons_zero, List.set_cons_succ])
     go_cut [45] (fun v45 wc => ∃ (kq : Nat) (x45_16 : Bool), v45 = .bool x45_16 ∧ Aside0 (spec_l2Value.j0 kq l0 a1 a2 ((rd_T67 l0 a1).f0) x45_16 ((rd_T67 l0 a1).f0) ((rd_T67 l0 a1).f1) ((rd_T67 l0 a1).f2) ((rd_T67 l0 a1).f3) = some (r1, r2, r3)) ∧ Aside0 (kq ≤ k) ∧ Aside0 (wc.heap[gb409]? = some (.cells #[.int .i64 ((rd_T67 l0 a1).f0), .int .i64 ((rd_T67 l0 a1).f1), .string ((rd_T67 l0 a1).f2), .int .i64 ((rd_T67 l0 a1).f3)] 67 (0, 0))) ∧ Aside0 (Below w.heap.size w wc))
     case first =>
      have H := HC17.out; clear HC17; by_cases c20 : ((rd_T67 l0 a1).f0) = 2
      ·rw [if_pos c20] at H; have c20b0 : (((rd_T67 l0 a1).f0) == 2) = true := beq_iff_eq.mpr c20; have c20b1 : (((rd_T67 l0 a1).f0) != 2) = false := bne_eq_false_iff_eq.mpr c20; clear c20; (first | rw [c20b0] | (simp only [i64_w, i32_w]; rw [c20b0]) | skip); have H' := Aside0.mk H; clear H; go_wp2
       repeat (go_quiet (fail); try go_wp2)
       go_meet
       case rel => exact ⟨_, ((((rd_T67 l0 a1).f0) == 2)), fs_, H', ⟨by first | omega | exact Nat.le_refl _⟩, ⟨pb4_⟩, ⟨bq_ HB⟩⟩
      ·rw [if_neg c20] at H; have c20b0 : (((rd_T67 l0 a1).f0) == 2) = false := beq_eq_false_iff_ne.mpr c20; have c20b1 : (((rd_T67 l0 a1).f0) != 2) = true := bne_iff_ne.mpr c20; (first | rw [c20b0] | (simp only [i64_w, i32_w]; rw [c20b0]) | skip); have H' := Aside0.mk H; clear H; go_wp2
       repeat (go_quiet (fail); try go_wp2)
       go_meet
       case rel => exact ⟨_, ((((rd_T67 l0 a1).f0) == 3)), fs_, H', ⟨by first | omega | exact Nat.le_refl _⟩, ⟨pb4_⟩, ⟨bq_ HB⟩⟩
     case rest =>
      clear HC17; try clear c1
      try clear c2
      try clear p2
      try clear c4
      try clear c4b0
      try clear p4
      try clear q4
      try clear hx4
      try clear c5
      try clear c5b0
      try clear c6
      try clear c6b0
      try clear p6
      try clear c7
      try clear c7b0
      try clear c7b1
      try clear c9
      try clear c10
      try clear c10b0
      try clear c10b1
      try clear c20
      try clear c20b0
      try clear c20b1
      try clear hcz12_0
      try clear hcz12_1
      try clear hcz12_2
      try clear hcz12_3
      try clear hcz14_0
      try clear hcz14_1
      try clear hcz14_2
      try clear hcz14_3
      try clear hcz16_0
      try clear hcz16_1
      try clear hcz16_2
      try clear hcz16_3
      try clear hcz19_0
      try clear hcz19_1
      try clear hcz19_2
      try clear hcz19_3
      try clear hfz12_0
      try clear hfz12_1
      try clear hfz12_2
      try clear hfz12_3
      try clear hfz14_0
      try clear hfz14_1
      try clear hfz14_2
      try clear hfz14_3
      try clear hfz16_0
      try clear hfz16_1
      try clear hfz16_2
      try clear hfz16_3
      try clear hfz19_0
      try clear hfz19_1
      try clear hfz19_2
      try clear hfz19_3
      try clear hx408_0
      try clear hx408_1
      try clear hx408_2
      try clear hx408_3
      try clear p408
      try clear q408
      obtain ⟨kq, x45_16, rfl, HA, HJ16, BK409, HB⟩ := hcut; cases kq with
      | zero => exact absurd HA.out (by simp [spec_l2Value.j0])
      | succ kj16 =>
       have H := HA.out; clear HA; simp only [spec_l2Value.j0] at H; by_cases c21 : x45_16 = true
       ·subst c21; have H1 : (spec_l2Value.l0 kj16 a1 a2 0 ((rd_T67 l0 a1).f0) ((rd_T67 l0 a1).f1) ((rd_T67 l0 a1).f2) ((rd_T67 l0 a1).f3)) = some (r1, r2, r3) := by rw [if_pos rfl] at H; exact H
        clear H; have H := H1; clear H1; have H' := Aside0.mk H; clear H; go_wp2
        repeat (go_quiet (fail); try go_wp2)
        go_loopg [10] kj16 (fun kq v10 w' => ∃ (x10_2 : Int), v10 = .int .i64 x10_2 ∧ Aside0 (spec_l2Value.l0 kq a1 a2 x10_2 ((rd_T67 l0 a1).f0) ((rd_T67 l0 a1).f1) ((rd_T67 l0 a1).f2) ((rd_T67 l0 a1).f3) = some (r1, r2, r3)) ∧ Aside0 (kq ≤ kj16) ∧ Aside0 (w'.heap[gb409]? = some (.cells #[.int .i64 ((rd_T67 l0 a1).f0), .int .i64 ((rd_T67 l0 a1).f1), .string ((rd_T67 l0 a1).f2), .int .i64 ((rd_T67 l0 a1).f3)] 67 (0, 0))) ∧ Aside0 (Below w.heap.size w w'))
        case atStart => exact ⟨(0), fs_, H', ⟨Nat.le_refl _⟩, ⟨pq_⟩, ⟨bq_ HB⟩⟩
        case round =>
         clear H'; try clear c1
         try clear c2
         try clear p2
         try clear c4
         try clear c4b0
         try clear p4
         try clear q4
         try clear hx4
         try clear c5
         try clear c5b0
         try clear c6
         try clear c6b0
         try clear p6
         try clear c7
         try clear c7b0
         try clear c7b1
         try clear c9
         try clear c10
         try clear c10b0
         try clear c10b1
         try clear c20
         try clear c20b0
         try clear c20b1
         try clear c21
         try clear hcz12_0
         try clear hcz12_1
         try clear hcz12_2
         try clear hcz12_3
         try clear hcz14_0
         try clear hcz14_1
         try clear hcz14_2
         try clear hcz14_3
         try clear hcz16_0
         try clear hcz16_1
         try clear hcz16_2
         try clear hcz16_3
         try clear hcz19_0
         try clear hcz19_1
         try clear hcz19_2
         try clear hcz19_3
         try clear hfz12_0
         try clear hfz12_1
         try clear hfz12_2
         try clear hfz12_3
         try clear hfz14_0
         try clear hfz14_1
         try clear hfz14_2
         try clear hfz14_3
         try clear hfz16_0
         try clear hfz16_1
         try clear hfz16_2
         try clear hfz16_3
         try clear hfz19_0
         try clear hfz19_1
         try clear hfz19_2
         try clear hfz19_3
         try clear hx408_0
         try clear hx408_1
         try clear hx408_2
         try clear hx408_3
         try clear p2
         try clear p4
         try clear p408
         try clear p6
         try clear q4
         try clear q408
         obtain ⟨x10_2, rfl, HA, HK2, BK409, HB⟩ := hrel; cases gk with
         | zero => exact absurd HA.out (by simp [spec_l2Value.l0])
         | succ k2 =>
          have H := HA.out; clear HA; simp only [spec_l2Value.l0] at H; by_cases c22 : x10_2 < (((rd_T67 l0 a1).f2).size : Int)
          ·rw [if_pos c22] at H; have c22b0 : decide (x10_2 < (((rd_T67 l0 a1).f2).size : Int)) = true := decide_eq_true c22; clear c22; by_cases c23 : ((rd_T67 l0 a1).f0) = 3
           ·rw [if_pos c23] at H; have c23b0 : (((rd_T67 l0 a1).f0) == 3) = true := beq_iff_eq.mpr c23; have c23b1 : (((rd_T67 l0 a1).f0) != 3) = false := bne_eq_false_iff_eq.mpr c23; clear c23; by_cases c24 : 0 ≤ x10_2
            ·rw [if_pos c24] at H; have c24b0 : decide (0 ≤ x10_2) = true := decide_eq_true c24; clear c24; by_cases c26 : (bt ((rd_T67 l0 a1).f2) x10_2) < 32
             ·rw [if_pos c26] at H; have c26b0 : decide ((bt ((rd_T67 l0 a1).f2) x10_2) < 32) = true := decide_eq_true c26; clear c26; simp only [Option.some.injEq, Prod.mk.injEq] at H; obtain ⟨rfl, rfl, rfl⟩ := H; obtain ⟨hcz27_0, hcz27_1, hcz27_2, hcz27_3, hfz27_0, hfz27_1, hfz27_2, hfz27_3⟩ := cf4 BK409.out; have p25 : 0 ≤ (x10_2 : Int) := od_; have q25 : x10_2 < (((rd_T67 l0 a1).f2).size : Int) := od_; have hx25 := bt_at ((rd_T67 l0 a1).f2) x10_2; replace p25 := eq_true p25; replace q25 := eq_true q25; go_wp2
              repeat (go_quiet (fail); try go_wp2)
              go_ret3; exact ⟨er_, bq_ HB⟩
             ·rw [if_neg c26] at H; have c26b0 : decide ((bt ((rd_T67 l0 a1).f2) x10_2) < 32) = false := decide_eq_false c26; clear c26; by_cases c29 : (bt ((rd_T67 l0 a1).f2) x10_2) > 126
              ·rw [if_pos c29] at H; have c29b0 : decide (126 < (bt ((rd_T67 l0 a1).f2) x10_2)) = true := decide_eq_true c29; clear c29; simp only [Option.some.injEq, Prod.mk.injEq] at H; obtain ⟨rfl, rfl, rfl⟩ := H; obtain ⟨hcz30_0, hcz30_1, hcz30_2, hcz30_3, hfz30_0, hfz30_1, hfz30_2, hfz30_3⟩ := cf4 BK409.out; have p25 : 0 ≤ (x10_2 : Int) := od_; have q25 : x10_2 < (((rd_T67 l0 a1).f2).size : Int) := od_; have hx25 := bt_at ((rd_T67 l0 a1).f2) x10_2; replace p25 := eq_true p25; replace q25 := eq_true q25; have p28 : 0 ≤ (x10_2 : Int) := od_; have q28 : x10_2 < (((rd_T67 l0 a1).f2).size : Int) := od_; have hx28 := bt_at ((rd_T67 l0 a1).f2) x10_2; replace p28 := eq_true p28; replace q28 := eq_true q28; go_wp2
               repeat (go_quiet (fail); try go_wp2)
               go_ret3; exact ⟨er_, bq_ HB⟩
              ·rw [if_neg c29] at H; have c29b0 : decide (126 < (bt ((rd_T67 l0 a1).f2) x10_2)) = false := decide_eq_false c29; clear c29; have H' := Aside0.mk H; clear H; obtain ⟨hcz31_0, hcz31_1, hcz31_2, hcz31_3, hfz31_0, hfz31_1, hfz31_2, hfz31_3⟩ := cf4 BK409.out; have p25 : 0 ≤ (x10_2 : Int) := od_; have q25 : x10_2 < (((rd_T67 l0 a1).f2).size : Int) := od_; have hx25 := bt_at ((rd_T67 l0 a1).f2) x10_2; replace p25 := eq_true p25; replace q25 := eq_true q25; have p28 : 0 ≤ (x10_2 : Int) := od_; have q28 : x10_2 < (((rd_T67 l0 a1).f2).size : Int) := od_; have hx28 := bt_at ((rd_T67 l0 a1).f2) x10_2; replace p28 := eq_true p28; replace q28 := eq_true q28; go_wp2
               repeat (go_quiet (fail); try go_wp2)
               go_roundg k2
               case measure => have := HJ16.out; have := HK2.out; omega
               case rel => exact ⟨(wrap64 (x10_2 + 1)), fs_, H', ⟨by have := HJ16.out; have := HK2.out; omega⟩, ⟨pq_⟩, ⟨bq_ HB⟩⟩
            ·rw [if_neg c24] at H; exact no_ H
           ·rw [if_neg c23] at H; have c23b0 : (((rd_T67 l0 a1).f0) == 3) = false := beq_eq_false_iff_ne.mpr c23; have c23b1 : (((rd_T67 l0 a1).f0) != 3) = true := bne_iff_ne.mpr c23; have H' := Aside0.mk H; clear H; obtain ⟨hcz32_0, hcz32_1, hcz32_2, hcz32_3, hfz32_0, hfz32_1, hfz32_2, hfz32_3⟩ := cf4 BK409.out; go_wp2
            repeat (go_quiet (fail); try go_wp2)
            go_roundg k2
            case measure => have := HJ16.out; have := HK2.out; omega
            case rel => exact ⟨(wrap64 (x10_2 + 1)), fs_, H', ⟨by have := HJ16.out; have := HK2.out; omega⟩, ⟨pq_⟩, ⟨bq_ HB⟩⟩
          ·rw [if_neg c22] at H; have c22b0 : decide (x10_2 < (((rd_T67 l0 a1).f2).size : Int)) = false := decide_eq_false c22; clear c22; by_cases c33 : (((rd_T67 l0 a1).f2).size : Int) ≤ 60
           ·rw [if_pos c33] at H; have c33b0 : decide ((((rd_T67 l0 a1).f2).size : Int) ≤ 60) = true := decide_eq_true c33; have c33b1 : decide (((rd_T67 l0 a1).f2).size ≤ 60) = true := decide_eq_true (by omega); clear c33; by_cases c34 : ((rd_T67 l0 a1).f1) = 0
            ·rw [if_pos c34] at H; have c34b0 : (((rd_T67 l0 a1).f1) == 0) = true := beq_iff_eq.mpr c34; have c34b1 : (((rd_T67 l0 a1).f1) != 0) = false := bne_eq_false_iff_eq.mpr c34; clear c34; simp only [Option.some.injEq, Prod.mk.injEq] at H; obtain ⟨rfl, rfl, rfl⟩ := H; obtain ⟨hcz35_0, hcz35_1, hcz35_2, hcz35_3, hfz35_0, hfz35_1, hfz35_2, hfz35_3⟩ := cf4 BK409.out; go_wp2
             repeat (go_quiet (fail); try go_wp2)
             go_ret3; exact ⟨er_, bq_ HB⟩
            ·rw [if_neg c34] at H; have c34b0 : (((rd_T67 l0 a1).f1) == 0) = false := beq_eq_false_iff_ne.mpr c34; have c34b1 : (((rd_T67 l0 a1).f1) != 0) = true := bne_iff_ne.mpr c34; simp only [Option.some.injEq, Prod.mk.injEq] at H; obtain ⟨rfl, rfl, rfl⟩ := H; obtain ⟨hcz36_0, hcz36_1, hcz36_2, hcz36_3, hfz36_0, hfz36_1, hfz36_2, hfz36_3⟩ := cf4 BK409.out; go_wp2
             repeat (go_quiet (fail); try go_wp2)
             go_ret3; exact ⟨er_, bq_ HB⟩
           ·rw [if_neg c33] at H; have c33b0 : decide ((((rd_T67 l0 a1).f2).size : Int) ≤ 60) = false := decide_eq_false c33; have c33b1 : decide (((rd_T67 l0 a1).f2).size ≤ 60) = false := decide_eq_false (by omega); clear c33; simp only [Option.some.injEq, Prod.mk.injEq] at H; obtain ⟨rfl, rfl, rfl⟩ := H; obtain ⟨hcz37_0, hcz37_1, hcz37_2, hcz37_3, hfz37_0, hfz37_1, hfz37_2, hfz37_3⟩ := cf4 BK409.out; go_wp2
            repeat (go_quiet (fail); try go_wp2)
            go_ret3; exact ⟨er_, bq_ HB⟩
       ·replace c21 := Bool.eq_false_iff.mpr c21; subst c21; have H1 : (if ((rd_T67 l0 a1).f0) = 4 then (if ((rd_T67 l0 a1).f1) = 0 then (if ((rd_T67 l0 a1).f2).toList = ([] : List UInt8) then (if ((rd_T67 l0 a1).f3) < 0 then (spec_l2Value.j2 kj16 l0 a1 a2 true ((rd_T67 l0 a1).f0) ((rd_T67 l0 a1).f1) ((rd_T67 l0 a1).f2) ((rd_T67 l0 a1).f3)) else (spec_l2Value.j2 kj16 l0 a1 a2 (a2 == 5) ((rd_T67 l0 a1).f0) ((rd_T67 l0 a1).f1) ((rd_T67 l0 a1).f2) ((rd_T67 l0 a1).f3))) else (spec_l2Value.j2 kj16 l0 a1 a2 true ((rd_T67 l0 a1).f0) ((rd_T67 l0 a1).f1) ((rd_T67 l0 a1).f2) ((rd_T67 l0 a1).f3))) else (spec_l2Value.j2 kj16 l0 a1 a2 true ((rd_T67 l0 a1).f0) ((rd_T67 l0 a1).f1) ((rd_T67 l0 a1).f2) ((rd_T67 l0 a1).f3))) else (some (0, 0, false))) = some (r1, r2, r3) := by rw [if_neg (show ¬ (false = true) by decide)] at H; exact H
        clear H; have H := H1; clear H1; by_cases c38 : ((rd_T67 l0 a1).f0) = 4
        ·rw [if_pos c38] at H; have c38b0 : (((rd_T67 l0 a1).f0) == 4) = true := beq_iff_eq.mpr c38; have c38b1 : (((rd_T67 l0 a1).f0) != 4) = false := bne_eq_false_iff_eq.mpr c38; clear c38; have HC39 := Aside0.mk H; clear H; go_upto_region 16 with (fail)
         repeat (go_quiet (fail); go_upto_region 16 with (fail))
         go_cut [107] (fun v107 wc => ∃ (kq : Nat) (x107_38 : Bool), v107 = .bool x107_38 ∧ Aside0 (spec_l2Value.j2 kq l0 a1 a2 x107_38 ((rd_T67 l0 a1).f0) ((rd_T67 l0 a1).f1) ((rd_T67 l0 a1).f2) ((rd_T67 l0 a1).f3) = some (r1, r2, r3)) ∧ Aside0 (kq ≤ kj16) ∧ Aside0 (wc.heap[gb409]? = some (.cells #[.int .i64 ((rd_T67 l0 a1).f0), .int .i64 ((rd_T67 l0 a1).f1), .string ((rd_T67 l0 a1).f2), .int .i64 ((rd_T67 l0 a1).f3)] 67 (0, 0))) ∧ Aside0 (Below w.heap.size w wc))
         case first =>
          have H := HC39.out; clear HC39; by_cases c40 : ((rd_T67 l0 a1).f1) = 0
          ·rw [if_pos c40] at H; have c40b0 : (((rd_T67 l0 a1).f1) == 0) = true := beq_iff_eq.mpr c40; have c40b1 : (((rd_T67 l0 a1).f1) != 0) = false := bne_eq_false_iff_eq.mpr c40; clear c40; (first | rw [c40b0] | (simp only [i64_w, i32_w]; rw [c40b0]) | skip); by_cases c41 : ((rd_T67 l0 a1).f2).toList = ([] : List UInt8)
           ·rw [if_pos c41] at H; have c41b0 : (((rd_T67 l0 a1).f2).toList == ([] : List UInt8)) = true := beq_iff_eq.mpr c41; have c41b1 : (((rd_T67 l0 a1).f2).toList != ([] : List UInt8)) = false := bne_eq_false_iff_eq.mpr c41; clear c41; by_cases c42 : ((rd_T67 l0 a1).f3) < 0
            ·rw [if_pos c42] at H; have c42b0 : decide (((rd_T67 l0 a1).f3) < 0) = true := decide_eq_true c42; clear c42; have H' := Aside0.mk H; clear H; obtain ⟨hcz43_0, hcz43_1, hcz43_2, hcz43_3, hfz43_0, hfz43_1, hfz43_2, hfz43_3⟩ := cf4 BK409.out; go_wp2
             repeat (go_quiet (fail); try go_wp2)
             go_meet
             case rel => exact ⟨_, (true), fs_, H', ⟨by have := HJ16.out; first | omega | exact Nat.le_refl _⟩, ⟨pq_⟩, ⟨bq_ HB⟩⟩
            ·rw [if_neg c42] at H; have c42b0 : decide (((rd_T67 l0 a1).f3) < 0) = false := decide_eq_false c42; clear c42; have H' := Aside0.mk H; clear H; obtain ⟨hcz44_0, hcz44_1, hcz44_2, hcz44_3, hfz44_0, hfz44_1, hfz44_2, hfz44_3⟩ := cf4 BK409.out; go_wp2
             repeat (go_quiet (fail); try go_wp2)
             go_meet
             case rel => exact ⟨_, ((a2 == 5)), fs_, H', ⟨by have := HJ16.out; first | omega | exact Nat.le_refl _⟩, ⟨pq_⟩, ⟨bq_ HB⟩⟩
           ·rw [if_neg c41] at H; have c41b0 : (((rd_T67 l0 a1).f2).toList == ([] : List UInt8)) = false := beq_eq_false_iff_ne.mpr c41; have c41b1 : (((rd_T67 l0 a1).f2).toList != ([] : List UInt8)) = true := bne_iff_ne.mpr c41; have H' := Aside0.mk H; clear H; obtain ⟨hcz45_0, hcz45_1, hcz45_2, hcz45_3, hfz45_0, hfz45_1, hfz45_2, hfz45_3⟩ := cf4 BK409.out; go_wp2
            repeat (go_quiet (fail); try go_wp2)
            go_meet
            case rel => exact ⟨_, (true), fs_, H', ⟨by have := HJ16.out; first | omega | exact Nat.le_refl _⟩, ⟨pq_⟩, ⟨bq_ HB⟩⟩
          ·rw [if_neg c40] at H; have c40b0 : (((rd_T67 l0 a1).f1) == 0) = false := beq_eq_false_iff_ne.mpr c40; have c40b1 : (((rd_T67 l0 a1).f1) != 0) = true := bne_iff_ne.mpr c40; (first | rw [c40b0] | (simp only [i64_w, i32_w]; rw [c40b0]) | skip); have H' := Aside0.mk H; clear H; obtain ⟨hcz46_0, hcz46_1, hcz46_2, hcz46_3, hfz46_0, hfz46_1, hfz46_2, hfz46_3⟩ := cf4 BK409.out; go_wp2
           repeat (go_quiet (fail); try go_wp2)
           go_meet
           case rel => exact ⟨_, (true), fs_, H', ⟨by have := HJ16.out; first | omega | exact Nat.le_refl _⟩, ⟨pq_⟩, ⟨bq_ HB⟩⟩
         case rest =>
          clear HC39; try clear c1
          try clear c2
          try clear p2
          try clear q2
          try clear hx2
          try clear c3
          try clear c4
          try clear c4b0
          try clear p4
          try clear q4
          try clear hx4
          try clear c5
          try clear c5b0
          try clear c6
          try clear c6b0
          try clear p6
          try clear c7
          try clear c7b0
          try clear c7b1
          try clear c9
          try clear c10
          try clear c10b0
          try clear c10b1
          try clear c20
          try clear c20b0
          try clear c20b1
          try clear c21
          try clear c22
          try clear c22b0
          try clear c23
          try clear c23b0
          try clear c23b1
          try clear c24
          try clear c24b0
          try clear p25
          try clear q25
          try clear hx25
          try clear c26
          try clear c26b0
          try clear p28
          try clear q28
          try clear hx28
          try clear c29
          try clear c29b0
          try clear c33
          try clear c33b0
          try clear c33b1
          try clear c34
          try clear c34b0
          try clear c34b1
          try clear c38
          try clear c38b0
          try clear c38b1
          try clear c40
          try clear c40b0
          try clear c40b1
          try clear p40
          try clear q40
          try clear hx40
          try clear c41
          try clear c41b0
          try clear c41b1
          try clear c42
          try clear c42b0
          try clear hcz12_0
          try clear hcz12_1
          try clear hcz12_2
          try clear hcz12_3
          try clear hcz14_0
          try clear hcz14_1
          try clear hcz14_2
          try clear hcz14_3
          try clear hcz16_0
          try clear hcz16_1
          try clear hcz16_2
          try clear hcz16_3
          try clear hcz19_0
          try clear hcz19_1
          try clear hcz19_2
          try clear hcz19_3
          try clear hcz27_0
          try clear hcz27_1
          try clear hcz27_2
          try clear hcz27_3
          try clear hcz30_0
          try clear hcz30_1
          try clear hcz30_2
          try clear hcz30_3
          try clear hcz31_0
          try clear hcz31_1
          try clear hcz31_2
          try clear hcz31_3
          try clear hcz32_0
          try clear hcz32_1
          try clear hcz32_2
          try clear hcz32_3
          try clear hcz35_0
          try clear hcz35_1
          try clear hcz35_2
          try clear hcz35_3
          try clear hcz36_0
          try clear hcz36_1
          try clear hcz36_2
          try clear hcz36_3
          try clear hcz37_0
          try clear hcz37_1
          try clear hcz37_2
          try clear hcz37_3
          try clear hcz43_0
          try clear hcz43_1
          try clear hcz43_2
          try clear hcz43_3
          try clear hcz44_0
          try clear hcz44_1
          try clear hcz44_2
          try clear hcz44_3
          try clear hcz45_0
          try clear hcz45_1
          try clear hcz45_2
          try clear hcz45_3
          try clear hcz46_0
          try clear hcz46_1
          try clear hcz46_2
          try clear hcz46_3
          try clear hfz12_0
          try clear hfz12_1
          try clear hfz12_2
          try clear hfz12_3
          try clear hfz14_0
          try clear hfz14_1
          try clear hfz14_2
          try clear hfz14_3
          try clear hfz16_0
          try clear hfz16_1
          try clear hfz16_2
          try clear hfz16_3
          try clear hfz19_0
          try clear hfz19_1
          try clear hfz19_2
          try clear hfz19_3
          try clear hfz27_0
          try clear hfz27_1
          try clear hfz27_2
          try clear hfz27_3
          try clear hfz30_0
          try clear hfz30_1
          try clear hfz30_2
          try clear hfz30_3
          try clear hfz31_0
          try clear hfz31_1
          try clear hfz31_2
          try clear hfz31_3
          try clear hfz32_0
          try clear hfz32_1
          try clear hfz32_2
          try clear hfz32_3
          try clear hfz35_0
          try clear hfz35_1
          try clear hfz35_2
          try clear hfz35_3
          try clear hfz36_0
          try clear hfz36_1
          try clear hfz36_2
          try clear hfz36_3
          try clear hfz37_0
          try clear hfz37_1
          try clear hfz37_2
          try clear hfz37_3
          try clear hfz43_0
          try clear hfz43_1
          try clear hfz43_2
          try clear hfz43_3
          try clear hfz44_0
          try clear hfz44_1
          try clear hfz44_2
          try clear hfz44_3
          try clear hfz45_0
          try clear hfz45_1
          try clear hfz45_2
          try clear hfz45_3
          try clear hfz46_0
          try clear hfz46_1
          try clear hfz46_2
          try clear hfz46_3
          try clear hx408_0
          try clear hx408_1
          try clear hx408_2
          try clear hx408_3
          try clear p2
          try clear p25
          try clear p28
          try clear p4
          try clear p408
          try clear p6
          try clear q25
          try clear q28
          try clear q4
          try clear q408
          obtain ⟨kq, x107_38, rfl, HA, HJ38, BK409, HB⟩ := hcut; cases kq with
          | zero => exact absurd HA.out (by simp [spec_l2Value.j2])
          | succ kj38 =>
           have H := HA.out; clear HA; simp only [spec_l2Value.j2] at H; by_cases c47 : x107_38 = true
           ·subst c47; have H1 : (some (0, 0, false)) = some (r1, r2, r3) := by rw [if_pos rfl] at H; exact H
            clear H; have H := H1; clear H1; simp only [Option.some.injEq, Prod.mk.injEq] at H; obtain ⟨rfl, rfl, rfl⟩ := H; go_wp2
            repeat (go_quiet (fail); try go_wp2)
            go_ret3; exact ⟨er_, bq_ HB⟩
           ·replace c47 := Bool.eq_false_iff.mpr c47; subst c47; have H1 : (spec_l2Value.l1 kj38 l0 a2 (wrap64 (a2 + 1)) (wrap64 (a1 + 1)) 0 ((rd_T67 l0 a1).f0) ((rd_T67 l0 a1).f1) ((rd_T67 l0 a1).f2) ((rd_T67 l0 a1).f3)) = some (r1, r2, r3) := by rw [if_neg (show ¬ (false = true) by decide)] at H; exact H
            clear H; have H := H1; clear H1; have H' := Aside0.mk H; clear H; go_wp2
            repeat (go_quiet (fail); try go_wp2)
            go_loopg [11, 12, 13] kj38 (fun kq v11 v12 v13 w' => ∃ (x11_3 : Int) (x12_3 : Int) (x13_3 : Int), v11 = .int .i64 x11_3 ∧ v12 = .int .i64 x12_3 ∧ v13 = .int .i64 x13_3 ∧ Aside0 (spec_l2Value.l1 kq l0 a2 x11_3 x12_3 x13_3 ((rd_T67 l0 a1).f0) ((rd_T67 l0 a1).f1) ((rd_T67 l0 a1).f2) ((rd_T67 l0 a1).f3) = some (r1, r2, r3)) ∧ Aside0 (kq ≤ kj38) ∧ Aside0 (w'.heap[gb409]? = some (.cells #[.int .i64 ((rd_T67 l0 a1).f0), .int .i64 ((rd_T67 l0 a1).f1), .string ((rd_T67 l0 a1).f2), .int .i64 ((rd_T67 l0 a1).f3)] 67 (0, 0))) ∧ Aside0 (Below w.heap.size w w'))
            case atStart => exact ⟨(wrap64 (a2 + 1)), (wrap64 (a1 + 1)), (0), fs_, fs_, fs_, H', ⟨Nat.le_refl _⟩, ⟨pq_⟩, ⟨bq_ HB⟩⟩
            case round =>
             clear H'; try clear c1
             try clear c2
             try clear p2
             try clear q2
             try clear hx2
             try clear c3
             try clear c4
             try clear c4b0
             try clear p4
             try clear q4
             try clear hx4
             try clear c5
             try clear c5b0
             try clear c6
             try clear c6b0
             try clear p6
             try clear c7
             try clear c7b0
             try clear c7b1
             try clear c9
             try clear c10
             try clear c10b0
             try clear c10b1
             try clear c20
             try clear c20b0
             try clear c20b1
             try clear c21
             try clear c22
             try clear c22b0
             try clear c23
             try clear c23b0
             try clear c23b1
             try clear c24
             try clear c24b0
             try clear p25
             try clear q25
             try clear hx25
             try clear c26
             try clear c26b0
             try clear p28
             try clear q28
             try clear hx28
             try clear c29
             try clear c29b0
             try clear c33
             try clear c33b0
             try clear c33b1
             try clear c34
             try clear c34b0
             try clear c34b1
             try clear c38
             try clear c38b0
             try clear c38b1
             try clear c40
             try clear c40b0
             try clear c40b1
             try clear p40
             try clear q40
             try clear hx40
             try clear c41
             try clear c41b0
             try clear c41b1
             try clear c42
             try clear c42b0
             try clear c47
             try clear hcz12_0
             try clear hcz12_1
             try clear hcz12_2
             try clear hcz12_3
             try clear hcz14_0
             try clear hcz14_1
             try clear hcz14_2
             try clear hcz14_3
             try clear hcz16_0
             try clear hcz16_1
             try clear hcz16_2
             try clear hcz16_3
             try clear hcz19_0
             try clear hcz19_1
             try clear hcz19_2
             try clear hcz19_3
             try clear hcz27_0
             try clear hcz27_1
             try clear hcz27_2
             try clear hcz27_3
             try clear hcz30_0
             try clear hcz30_1
             try clear hcz30_2
             try clear hcz30_3
             try clear hcz31_0
             try clear hcz31_1
             try clear hcz31_2
             try clear hcz31_3
             try clear hcz32_0
             try clear hcz32_1
             try clear hcz32_2
             try clear hcz32_3
             try clear hcz35_0
             try clear hcz35_1
             try clear hcz35_2
             try clear hcz35_3
             try clear hcz36_0
             try clear hcz36_1
             try clear hcz36_2
             try clear hcz36_3
             try clear hcz37_0
             try clear hcz37_1
             try clear hcz37_2
             try clear hcz37_3
             try clear hcz43_0
             try clear hcz43_1
             try clear hcz43_2
             try clear hcz43_3
             try clear hcz44_0
             try clear hcz44_1
             try clear hcz44_2
             try clear hcz44_3
             try clear hcz45_0
             try clear hcz45_1
             try clear hcz45_2
             try clear hcz45_3
             try clear hcz46_0
             try clear hcz46_1
             try clear hcz46_2
             try clear hcz46_3
             try clear hfz12_0
             try clear hfz12_1
             try clear hfz12_2
             try clear hfz12_3
             try clear hfz14_0
             try clear hfz14_1
             try clear hfz14_2
             try clear hfz14_3
             try clear hfz16_0
             try clear hfz16_1
             try clear hfz16_2
             try clear hfz16_3
             try clear hfz19_0
             try clear hfz19_1
             try clear hfz19_2
             try clear hfz19_3
             try clear hfz27_0
             try clear hfz27_1
             try clear hfz27_2
             try clear hfz27_3
             try clear hfz30_0
             try clear hfz30_1
             try clear hfz30_2
             try clear hfz30_3
             try clear hfz31_0
             try clear hfz31_1
             try clear hfz31_2
             try clear hfz31_3
             try clear hfz32_0
             try clear hfz32_1
             try clear hfz32_2
             try clear hfz32_3
             try clear hfz35_0
             try clear hfz35_1
             try clear hfz35_2
             try clear hfz35_3
             try clear hfz36_0
             try clear hfz36_1
             try clear hfz36_2
             try clear hfz36_3
             try clear hfz37_0
             try clear hfz37_1
             try clear hfz37_2
             try clear hfz37_3
             try clear hfz43_0
             try clear hfz43_1
             try clear hfz43_2
             try clear hfz43_3
             try clear hfz44_0
             try clear hfz44_1
             try clear hfz44_2
             try clear hfz44_3
             try clear hfz45_0
             try clear hfz45_1
             try clear hfz45_2
             try clear hfz45_3
             try clear hfz46_0
             try clear hfz46_1
             try clear hfz46_2
             try clear hfz46_3
             try clear hx408_0
             try clear hx408_1
             try clear hx408_2
             try clear hx408_3
             try clear p2
             try clear p25
             try clear p28
             try clear p4
             try clear p40
             try clear p408
             try clear p6
             try clear q2
             try clear q25
             try clear q28
             try clear q4
             try clear q40
             try clear q408
             obtain ⟨x11_3, x12_3, x13_3, rfl, rfl, rfl, HA, HK3, BK409, HB⟩ := hrel; cases gk with
             | zero => exact absurd HA.out (by simp [spec_l2Value.l1])
             | succ k3 =>
              have H := HA.out; clear HA; simp only [spec_l2Value.l1] at H; by_cases c48 : x13_3 < ((rd_T67 l0 a1).f3)
              ·rw [if_pos c48] at H; have c48b0 : decide (x13_3 < ((rd_T67 l0 a1).f3)) = true := decide_eq_true c48; clear c48; replace H := Option.bind_eq_some_iff.mp H; obtain ⟨⟨t411, t412, t413⟩, A490, H⟩ := H; replace H : (if t413 = true then (if t412 > x11_3 then (spec_l2Value.l1 k3 l0 a2 t412 t411 (wrap64 (x13_3 + 1)) ((rd_T67 l0 a1).f0) ((rd_T67 l0 a1).f1) ((rd_T67 l0 a1).f2) ((rd_T67 l0 a1).f3)) else (spec_l2Value.l1 k3 l0 a2 x11_3 t411 (wrap64 (x13_3 + 1)) ((rd_T67 l0 a1).f0) ((rd_T67 l0 a1).f1) ((rd_T67 l0 a1).f2) ((rd_T67 l0 a1).f3))) else (some (0, 0, false))) = some (r1, r2, r3) := H; have A49 := Aside0.mk A490; clear A490; by_cases c50 : t413 = true
               ·subst c50; have H1 : (if t412 > x11_3 then (spec_l2Value.l1 k3 l0 a2 t412 t411 (wrap64 (x13_3 + 1)) ((rd_T67 l0 a1).f0) ((rd_T67 l0 a1).f1) ((rd_T67 l0 a1).f2) ((rd_T67 l0 a1).f3)) else (spec_l2Value.l1 k3 l0 a2 x11_3 t411 (wrap64 (x13_3 + 1)) ((rd_T67 l0 a1).f0) ((rd_T67 l0 a1).f1) ((rd_T67 l0 a1).f2) ((rd_T67 l0 a1).f3))) = some (r1, r2, r3) := by rw [if_pos rfl] at H; exact H
                clear H; have H := H1; clear H1; by_cases c51 : t412 > x11_3
                ·rw [if_pos c51] at H; have c51b0 : decide (x11_3 < t412) = true := decide_eq_true c51; clear c51; have H' := Aside0.mk H; clear H; obtain ⟨hcz52_0, hcz52_1, hcz52_2, hcz52_3, hfz52_0, hfz52_1, hfz52_2, hfz52_3⟩ := cf4 BK409.out; go_wp2_with (first | (go_at_call 97; (with_reducible refine (ih k3 (by have := HJ16.out; have := HJ38.out; have := HK3.out; omega) _ _ l0 x12_3 (wrap64 (a2 + 1)) t411 t412 true _ ?side1 ?side2 A49.out).mono ?_); (case side1 => repeat (first | exact (Kd.C_below HR0.out HB.out) | with_reducible first | refine Kd.C_alloc ?_ _ | refine Kd.C_drewN ?_ _ | refine Kd.C_drew ?_)); (case side2 => exact HC0.out); rintro e w53 ⟨rfl, hb⟩; have n0_ := Aside0.mk (blk_below (g := gb409) (o := .cells #[.int .i64 ((rd_T67 l0 a1).f0), .int .i64 ((rd_T67 l0 a1).f1), .string ((rd_T67 l0 a1).f2), .int .i64 ((rd_T67 l0 a1).f3)] 67 (0, 0)) pq_ hb); have n1_ := Aside0.mk (below_step (bq_ HB) hb); clear BK409; clear HB; have BK409 := n0_; have HB := n1_; clear n0_ n1_; (try clear hb); (try clear hb2); (try clear hk); (try clear hi)))
                 repeat (go_quiet (first | (go_at_call 97; (with_reducible refine (ih k3 (by have := HJ16.out; have := HJ38.out; have := HK3.out; omega) _ _ l0 x12_3 (wrap64 (a2 + 1)) t411 t412 true _ ?side1 ?side2 A49.out).mono ?_); (case side1 => repeat (first | exact (Kd.C_below HR0.out HB.out) | with_reducible first | refine Kd.C_alloc ?_ _ | refine Kd.C_drewN ?_ _ | refine Kd.C_drew ?_)); (case side2 => exact HC0.out); rintro e w53 ⟨rfl, hb⟩; have n0_ := Aside0.mk (blk_below (g := gb409) (o := .cells #[.int .i64 ((rd_T67 l0 a1).f0), .int .i64 ((rd_T67 l0 a1).f1), .string ((rd_T67 l0 a1).f2), .int .i64 ((rd_T67 l0 a1).f3)] 67 (0, 0)) pq_ hb); have n1_ := Aside0.mk (below_step (bq_ HB) hb); clear BK409; clear HB; have BK409 := n0_; have HB := n1_; clear n0_ n1_; (try clear hb); (try clear hb2); (try clear hk); (try clear hi))); try go_wp2_with (first | (go_at_call 97; (with_reducible refine (ih k3 (by have := HJ16.out; have := HJ38.out; have := HK3.out; omega) _ _ l0 x12_3 (wrap64 (a2 + 1)) t411 t412 true _ ?side1 ?side2 A49.out).mono ?_); (case side1 => repeat (first | exact (Kd.C_below HR0.out HB.out) | with_reducible first | refine Kd.C_alloc ?_ _ | refine Kd.C_drewN ?_ _ | refine Kd.C_drew ?_)); (case side2 => exact HC0.out); rintro e w53 ⟨rfl, hb⟩; have n0_ := Aside0.mk (blk_below (g := gb409) (o := .cells #[.int .i64 ((rd_T67 l0 a1).f0), .int .i64 ((rd_T67 l0 a1).f1), .string ((rd_T67 l0 a1).f2), .int .i64 ((rd_T67 l0 a1).f3)] 67 (0, 0)) pq_ hb); have n1_ := Aside0.mk (below_step (bq_ HB) hb); clear BK409; clear HB; have BK409 := n0_; have HB := n1_; clear n0_ n1_; (try clear hb); (try clear hb2); (try clear hk); (try clear hi))))
                 go_roundg k3
                 case measure => have := HJ16.out; have := HJ38.out; have := HK3.out; omega
                 case rel => exact ⟨(t412), (t411), (wrap64 (x13_3 + 1)), fs_, fs_, fs_, H', ⟨by have := HJ16.out; have := HJ38.out; have := HK3.out; omega⟩, ⟨pq_⟩, ⟨bq_ HB⟩⟩
                ·rw [if_neg c51] at H; have c51b0 : decide (x11_3 < t412) = false := decide_eq_false c51; clear c51; have H' := Aside0.mk H; clear H; obtain ⟨hcz54_0, hcz54_1, hcz54_2, hcz54_3, hfz54_0, hfz54_1, hfz54_2, hfz54_3⟩ := cf4 BK409.out; go_wp2_with (first | (go_at_call 97; (with_reducible refine (ih k3 (by have := HJ16.out; have := HJ38.out; have := HK3.out; omega) _ _ l0 x12_3 (wrap64 (a2 + 1)) t411 t412 true _ ?side1 ?side2 A49.out).mono ?_); (case side1 => repeat (first | exact (Kd.C_below HR0.out HB.out) | with_reducible first | refine Kd.C_alloc ?_ _ | refine Kd.C_drewN ?_ _ | refine Kd.C_drew ?_)); (case side2 => exact HC0.out); rintro e w55 ⟨rfl, hb⟩; have n0_ := Aside0.mk (blk_below (g := gb409) (o := .cells #[.int .i64 ((rd_T67 l0 a1).f0), .int .i64 ((rd_T67 l0 a1).f1), .string ((rd_T67 l0 a1).f2), .int .i64 ((rd_T67 l0 a1).f3)] 67 (0, 0)) pq_ hb); have n1_ := Aside0.mk (below_step (bq_ HB) hb); clear BK409; clear HB; have BK409 := n0_; have HB := n1_; clear n0_ n1_; (try clear hb); (try clear hb2); (try clear hk); (try clear hi)))
                 repeat (go_quiet (first | (go_at_call 97; (with_reducible refine (ih k3 (by have := HJ16.out; have := HJ38.out; have := HK3.out; omega) _ _ l0 x12_3 (wrap64 (a2 + 1)) t411 t412 true _ ?side1 ?side2 A49.out).mono ?_); (case side1 => repeat (first | exact (Kd.C_below HR0.out HB.out) | with_reducible first | refine Kd.C_alloc ?_ _ | refine Kd.C_drewN ?_ _ | refine Kd.C_drew ?_)); (case side2 => exact HC0.out); rintro e w55 ⟨rfl, hb⟩; have n0_ := Aside0.mk (blk_below (g := gb409) (o := .cells #[.int .i64 ((rd_T67 l0 a1).f0), .int .i64 ((rd_T67 l0 a1).f1), .string ((rd_T67 l0 a1).f2), .int .i64 ((rd_T67 l0 a1).f3)] 67 (0, 0)) pq_ hb); have n1_ := Aside0.mk (below_step (bq_ HB) hb); clear BK409; clear HB; have BK409 := n0_; have HB := n1_; clear n0_ n1_; (try clear hb); (try clear hb2); (try clear hk); (try clear hi))); try go_wp2_with (first | (go_at_call 97; (with_reducible refine (ih k3 (by have := HJ16.out; have := HJ38.out; have := HK3.out; omega) _ _ l0 x12_3 (wrap64 (a2 + 1)) t411 t412 true _ ?side1 ?side2 A49.out).mono ?_); (case side1 => repeat (first | exact (Kd.C_below HR0.out HB.out) | with_reducible first | refine Kd.C_alloc ?_ _ | refine Kd.C_drewN ?_ _ | refine Kd.C_drew ?_)); (case side2 => exact HC0.out); rintro e w55 ⟨rfl, hb⟩; have n0_ := Aside0.mk (blk_below (g := gb409) (o := .cells #[.int .i64 ((rd_T67 l0 a1).f0), .int .i64 ((rd_T67 l0 a1).f1), .string ((rd_T67 l0 a1).f2), .int .i64 ((rd_T67 l0 a1).f3)] 67 (0, 0)) pq_ hb); have n1_ := Aside0.mk (below_step (bq_ HB) hb); clear BK409; clear HB; have BK409 := n0_; have HB := n1_; clear n0_ n1_; (try clear hb); (try clear hb2); (try clear hk); (try clear hi))))
                 go_roundg k3
                 case measure => have := HJ16.out; have := HJ38.out; have := HK3.out; omega
                 case rel => exact ⟨(x11_3), (t411), (wrap64 (x13_3 + 1)), fs_, fs_, fs_, H', ⟨by have := HJ16.out; have := HJ38.out; have := HK3.out; omega⟩, ⟨pq_⟩, ⟨bq_ HB⟩⟩
               ·replace c50 := Bool.eq_false_iff.mpr c50; subst c50; have H1 : (some (0, 0, false)) = some (r1, r2, r3) := by rw [if_neg (show ¬ (false = true) by decide)] at H; exact H
                clear H; have H := H1; clear H1; simp only [Option.some.injEq, Prod.mk.injEq] at H; obtain ⟨rfl, rfl, rfl⟩ := H; obtain ⟨hcz56_0, hcz56_1, hcz56_2, hcz56_3, hfz56_0, hfz56_1, hfz56_2, hfz56_3⟩ := cf4 BK409.out; go_wp2_with (first | (go_at_call 97; (with_reducible refine (ih k3 (by have := HJ16.out; have := HJ38.out; have := HK3.out; omega) _ _ l0 x12_3 (wrap64 (a2 + 1)) t411 t412 false _ ?side1 ?side2 A49.out).mono ?_); (case side1 => repeat (first | exact (Kd.C_below HR0.out HB.out) | with_reducible first | refine Kd.C_alloc ?_ _ | refine Kd.C_drewN ?_ _ | refine Kd.C_drew ?_)); (case side2 => exact HC0.out); rintro e w57 ⟨rfl, hb⟩; have n0_ := Aside0.mk (blk_below (g := gb409) (o := .cells #[.int .i64 ((rd_T67 l0 a1).f0), .int .i64 ((rd_T67 l0 a1).f1), .string ((rd_T67 l0 a1).f2), .int .i64 ((rd_T67 l0 a1).f3)] 67 (0, 0)) pq_ hb); have n1_ := Aside0.mk (below_step (bq_ HB) hb); clear BK409; clear HB; have BK409 := n0_; have HB := n1_; clear n0_ n1_; (try clear hb); (try clear hb2); (try clear hk); (try clear hi)))
                repeat (go_quiet (first | (go_at_call 97; (with_reducible refine (ih k3 (by have := HJ16.out; have := HJ38.out; have := HK3.out; omega) _ _ l0 x12_3 (wrap64 (a2 + 1)) t411 t412 false _ ?side1 ?side2 A49.out).mono ?_); (case side1 => repeat (first | exact (Kd.C_below HR0.out HB.out) | with_reducible first | refine Kd.C_alloc ?_ _ | refine Kd.C_drewN ?_ _ | refine Kd.C_drew ?_)); (case side2 => exact HC0.out); rintro e w57 ⟨rfl, hb⟩; have n0_ := Aside0.mk (blk_below (g := gb409) (o := .cells #[.int .i64 ((rd_T67 l0 a1).f0), .int .i64 ((rd_T67 l0 a1).f1), .string ((rd_T67 l0 a1).f2), .int .i64 ((rd_T67 l0 a1).f3)] 67 (0, 0)) pq_ hb); have n1_ := Aside0.mk (below_step (bq_ HB) hb); clear BK409; clear HB; have BK409 := n0_; have HB := n1_; clear n0_ n1_; (try clear hb); (try clear hb2); (try clear hk); (try clear hi))); try go_wp2_with (first | (go_at_call 97; (with_reducible refine (ih k3 (by have := HJ16.out; have := HJ38.out; have := HK3.out; omega) _ _ l0 x12_3 (wrap64 (a2 + 1)) t411 t412 false _ ?side1 ?side2 A49.out).mono ?_); (case side1 => repeat (first | exact (Kd.C_below HR0.out HB.out) | with_reducible first | refine Kd.C_alloc ?_ _ | refine Kd.C_drewN ?_ _ | refine Kd.C_drew ?_)); (case side2 => exact HC0.out); rintro e w57 ⟨rfl, hb⟩; have n0_ := Aside0.mk (blk_below (g := gb409) (o := .cells #[.int .i64 ((rd_T67 l0 a1).f0), .int .i64 ((rd_T67 l0 a1).f1), .string ((rd_T67 l0 a1).f2), .int .i64 ((rd_T67 l0 a1).f3)] 67 (0, 0)) pq_ hb); have n1_ := Aside0.mk (below_step (bq_ HB) hb); clear BK409; clear HB; have BK409 := n0_; have HB := n1_; clear n0_ n1_; (try clear hb); (try clear hb2); (try clear hk); (try clear hi))))
                go_ret3; exact ⟨er_, bq_ HB⟩
              ·rw [if_neg c48] at H; have c48b0 : decide (x13_3 < ((rd_T67 l0 a1).f3)) = false := decide_eq_false c48; clear c48; simp only [Option.some.injEq, Prod.mk.injEq] at H; obtain ⟨rfl, rfl, rfl⟩ := H; obtain ⟨hcz58_0, hcz58_1, hcz58_2, hcz58_3, hfz58_0, hfz58_1, hfz58_2, hfz58_3⟩ := cf4 BK409.out; go_wp2
               repeat (go_quiet (fail); try go_wp2)
               go_ret3; exact ⟨er_, bq_ HB⟩
        ·rw [if_neg c38] at H; have c38b0 : (((rd_T67 l0 a1).f0) == 4) = false := beq_eq_false_iff_ne.mpr c38; have c38b1 : (((rd_T67 l0 a1).f0) != 4) = true := bne_iff_ne.mpr c38; simp only [Option.some.injEq, Prod.mk.injEq] at H; obtain ⟨rfl, rfl, rfl⟩ := H; go_wp2
         repeat (go_quiet (fail); try go_wp2)
         go_ret3; exact ⟨er_, bq_ HB⟩
   ·rw [if_neg c6] at H; exact no_ H
  ·rw [if_neg c5] at H; exact no_ H
end Go.Proofs.Ytaffjcaohbkmoaa.QFnBundles
