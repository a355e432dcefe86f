import Derived.Test.YtaffjcaohbkmoaaQFnBundlesx0
import Derived.Test.YtaffjcaohbkmoaaQFnBundlesx5
import Derived.Test.YtaffjcaohbkmoaaQFnBundlesx8
import Derived.Test.YtaffjcaohbkmoaaQFnBundlesx9
import Derived.Test.YtaffjcaohbkmoaaQFnBundlesx10
import Derived.Test.YtaffjcaohbkmoaaSq
namespace Go.Proofs.Ytaffjcaohbkmoaa.QFnBundles
open Go.RowKit Go.Proofs.YtaffjcaohbkmoaaW.PrintWords Go.Proofs.YtaffjcaohbkmoaaW.PrintLast Go.Proofs.YtaffjcaohbkmoaaW.PrintMore
attribute [local go_sem] max2_int min2_int max_two min_two max_three min_three max_four min_four   -- for this text's walks alone
set_option linter.unusedVariables false
set_option linter.unusedSimpArgs false
mutual
def impl_ReadItems.l0 : Nat → ByteArray → List (S67) → Int → Option ((List (S67)) × Bool)
 | 0, _, _, _ => none
 | k + 1, x0, x4, x5 => if x5 < (x0.size : Int) then ((impl_takeHead.f k x0 x5).bind fun bt330 => (if bt330.2.2.2 = true then (impl_ReadItems.j1 k x0 x4 bt330.1 bt330.2.1 bt330.2.2.1 ((x4.length : Int) == 40)) else (impl_ReadItems.j1 k x0 x4 bt330.1 bt330.2.1 bt330.2.2.1 true))) else ((impl_GoodItems.f k x4).bind fun t329 => (if t329 = true then (some (x4, true)) else (some (([] : List (S67)), false))))
def impl_ReadItems.j1 : Nat → ByteArray → List (S67) → Int → Int → Int → Bool → Option ((List (S67)) × Bool)
 | 0, _, _, _, _, _, _ => none
 | k + 1, x0, x4, x6, x7, x8, x32 => if x32 = true then (some (([] : List (S67)), false)) else (if x6 = 0 then (if x4.length < 3518437208883 then (impl_ReadItems.l0 k x0 (x4 ++ [(⟨1, x7, (⟨#[]⟩ : ByteArray), 0⟩ : S67)]) x8) else (none)) else (if x6 = 2 then (impl_ReadItems.j2 k x0 x4 x8 x6 x7 x6 (x6 == 2)) else (impl_ReadItems.j2 k x0 x4 x8 x6 x7 x6 (x6 == 3))))
def impl_ReadItems.j2 : Nat → ByteArray → List (S67) → Int → Int → Int → Int → Bool → Option ((List (S67)) × Bool)
 | 0, _, _, _, _, _, _, _ => none
 | k + 1, x0, x4, x5, x6, x7, x34, x42 => if x42 = true then (if x7 > (wrap64 ((x0.size : Int) - x5)) then (some (([] : List (S67)), false)) else (if 0 ≤ x5 then (if x5 ≤ (wrap64 (x5 + x7)) then (if (wrap64 (x5 + x7)) ≤ (x0.size : Int) then (if x4.length < 3518437208883 then (impl_ReadItems.l0 k x0 (x4 ++ [(⟨x6, 0, x0.extract (x5 : Int).toNat ((wrap64 (x5 + x7)) : Int).toNat, 0⟩ : S67)]) (wrap64 (x5 + x7))) else (none)) else (none)) else (none)) else (none))) else (if x34 = 4 then (if x4.length < 3518437208883 then (impl_ReadItems.l0 k x0 (x4 ++ [(⟨4, 0, (⟨#[]⟩ : ByteArray), x7⟩ : S67)]) x5) else (none)) else (some (([] : List (S67)), false)))
end
def impl_ReadItems.f (k : Nat) (a0 : ByteArray) : Option ((List (S67)) × Bool) := if (a0.size : Int) > 400 then (some (([] : List (S67)), false)) else (impl_ReadItems.l0 k a0 (([] : List (S67))) 0)
theorem impl_ReadItems.mono_l : ∀ k, (∀ y0 y1 y2, LeO (impl_ReadItems.l0 k y0 y1 y2) (impl_ReadItems.l0 (k + 1) y0 y1 y2)) ∧ (∀ y0 y1 y2 y3 y4 y5, LeO (impl_ReadItems.j1 k y0 y1 y2 y3 y4 y5) (impl_ReadItems.j1 (k + 1) y0 y1 y2 y3 y4 y5)) ∧ (∀ y0 y1 y2 y3 y4 y5 y6, LeO (impl_ReadItems.j2 k y0 y1 y2 y3 y4 y5 y6) (impl_ReadItems.j2 (k + 1) y0 y1 y2 y3 y4 y5 y6))
 | 0 => ⟨fun _ _ _ r h => by simp [impl_ReadItems.l0] at h, fun _ _ _ _ _ _ r h => by simp [impl_ReadItems.j1] at h, fun _ _ _ _ _ _ _ r h => by simp [impl_ReadItems.j2] at h⟩
 | k + 1 => by
  obtain ⟨ih0, ih1, ih2⟩ := impl_ReadItems.mono_l k; refine ⟨?_, ?_, ?_⟩
  ·intro y0 y1 y2; unfold impl_ReadItems.l0
   repeat' first
   | (with_reducible exact ih0 _ _ _)
   | (with_reducible exact ih1 _ _ _ _ _ _)
   | (with_reducible exact ih2 _ _ _ _ _ _ _)
   | (with_reducible exact impl_GoodItems.mono _ _)
   | (with_reducible exact impl_takeHead.mono _ _ _)
   | (with_reducible exact LeO.refl _)
   | (with_reducible exact LeO.none _)
   | (with_reducible refine LeO.ite ?_ ?_)
   | (with_reducible refine LeO.bind ?_ (fun _ => ?_))
   | exact ih0 _ _ _
   | exact ih1 _ _ _ _ _ _
   | exact ih2 _ _ _ _ _ _ _
   | exact impl_GoodItems.mono _ _
   | exact impl_takeHead.mono _ _ _
   | exact LeO.none _
   | refine LeO.ite ?_ ?_
   | refine LeO.bind ?_ (fun _ => ?_)
  ·intro y0 y1 y2 y3 y4 y5; unfold impl_ReadItems.j1
   repeat' first
   | (with_reducible exact ih0 _ _ _)
   | (with_reducible exact ih1 _ _ _ _ _ _)
   | (with_reducible exact ih2 _ _ _ _ _ _ _)
   | (with_reducible exact impl_GoodItems.mono _ _)
   | (with_reducible exact impl_takeHead.mono _ _ _)
   | (with_reducible exact LeO.refl _)
   | (with_reducible exact LeO.none _)
   | (with_reducible refine LeO.ite ?_ ?_)
   | (with_reducible refine LeO.bind ?_ (fun _ => ?_))
   | exact ih0 _ _ _
   | exact ih1 _ _ _ _ _ _
   | exact ih2 _ _ _ _ _ _ _
   | exact impl_GoodItems.mono _ _
   | exact impl_takeHead.mono _ _ _
   | exact LeO.none _
   | refine LeO.ite ?_ ?_
   | refine LeO.bind ?_ (fun _ => ?_)
  ·intro y0 y1 y2 y3 y4 y5 y6; unfold impl_ReadItems.j2
   repeat' first
   | (with_reducible exact ih0 _ _ _)
   | (with_reducible exact ih1 _ _ _ _ _ _)
   | (with_reducible exact ih2 _ _ _ _ _ _ _)
   | (with_reducible exact impl_GoodItems.mono _ _)
   | (with_reducible exact impl_takeHead.mono _ _ _)
   | (with_reducible exact LeO.refl _)
   | (with_reducible exact LeO.none _)
   | (with_reducible refine LeO.ite ?_ ?_)
   | (with_reducible refine LeO.bind ?_ (fun _ => ?_))
   | exact ih0 _ _ _
   | exact ih1 _ _ _ _ _ _
   | exact ih2 _ _ _ _ _ _ _
   | exact impl_GoodItems.mono _ _
   | exact impl_takeHead.mono _ _ _
   | exact LeO.none _
   | refine LeO.ite ?_ ?_
   | refine LeO.bind ?_ (fun _ => ?_)
theorem impl_ReadItems.mono : ∀ a0 k, LeO (impl_ReadItems.f k a0) (impl_ReadItems.f (k + 1) a0) := by
 intro a0 k; obtain ⟨ih0, ih1, ih2⟩ := impl_ReadItems.mono_l k; unfold impl_ReadItems.f
 repeat' first
   | (with_reducible exact ih0 _ _ _)
   | (with_reducible exact ih1 _ _ _ _ _ _)
   | (with_reducible exact ih2 _ _ _ _ _ _ _)
   | (with_reducible exact impl_GoodItems.mono _ _)
   | (with_reducible exact impl_takeHead.mono _ _ _)
   | (with_reducible exact LeO.refl _)
   | (with_reducible exact LeO.none _)
   | (with_reducible refine LeO.ite ?_ ?_)
   | (with_reducible refine LeO.bind ?_ (fun _ => ?_))
   | exact ih0 _ _ _
   | exact ih1 _ _ _ _ _ _
   | exact ih2 _ _ _ _ _ _ _
   | exact impl_GoodItems.mono _ _
   | exact impl_takeHead.mono _ _ _
   | exact LeO.none _
   | refine LeO.ite ?_ ?_
   | refine LeO.bind ?_ (fun _ => ?_)
set_option maxHeartbeats 8000000 in
set_option maxRecDepth 100000 in
theorem impl_ReadItems.calls (k : Nat) (a0 : ByteArray) (r1 : List (S67)) (r2 : Bool) (w : World) (h : impl_ReadItems.f k a0 = some (r1, r2)) :
  Calls Try.prog 46 #[.string a0] w fun e w' => ∃ v0_ : Value, e = .returned (.tuple #[v0_, .bool r2]) ∧ Kd.R k67 67 w' w.heap.size (fun _ => True) v0_ r1 ∧ Below w.heap.size w w' := by
 have hu67 := Try.underlying67; have HB := Aside0.mk (Below.refl w.heap.size w); have H : (if (a0.size : Int) > 400 then (some (([] : List (S67)), false)) else (impl_ReadItems.l0 k a0 (([] : List (S67))) 0)) = some (r1, r2) := h; clear h; by_cases c2 : (a0.size : Int) > 400
 ·rw [if_pos c2] at H; have c2b0 : decide (400 < (a0.size : Int)) = true := decide_eq_true c2; have c2b1 : decide (400 < a0.size) = true := decide_eq_true (by omega); clear c2; simp only [Option.some.injEq, Prod.mk.injEq] at H; obtain ⟨rfl, rfl⟩ := H
  go_enter Try.func46, Try.ntmps46
  go_wp2; go_ret2; exact ⟨_, er_, by first | exact Kd.R_nil _ _ _ _ _ | exact Kd.N_nil _ _ _ _ _ | exact Kd.V_nil _ _ _ _ _ | exact Kd.Q_nil _ _ _ _ _ | exact Kd.S_nil _ _ _ _ _, bq_ HB⟩
 ·rw [if_neg c2] at H; have c2b0 : decide (400 < (a0.size : Int)) = false := decide_eq_false c2; have c2b1 : decide (400 < a0.size) = false := decide_eq_false (by omega); clear c2; obtain ⟨y326, hy326⟩ : ∃ y_ : List (S67), y_ = (([] : List (S67))) := ⟨_, rfl⟩
  replace H : (impl_ReadItems.l0 k a0 y326 0) = some (r1, r2) := by first | (rw [hy326]; with_reducible exact H) | (have H2_ := (Option.bind_some _ _).symm.trans H; rw [hy326]; with_reducible exact H2_) | (have H2_ := (Option.bind_some _ _).symm.trans H; with_reducible exact H2_) | with_reducible exact H | (rw [hy326]; exact H) | exact H
  have Ny326 := Aside0.mk hy326; clear hy326; have H' := Aside0.mk H; clear H
  go_enter Try.func46, Try.ntmps46
  go_wp2_with (first | ((with_reducible refine gate_dst (N := 13) rfl ?_); (try (refine gate_guard (by rfl) ?_; dsimp only)); refine Kd.R_lit k67 _ 67 ?hg (N := 13) ?hd (xs := ([] : List (S67))) (inner := []) (ok := fun _ => True) (okp := fun _ => True) ?hr ?hp (fun _ hk => hk) trivial (Below.refl _ _) (Nat.le_refl _) (by simp) ?_; (case hd => rfl); (case hg => rfl); (case hr => first | (go_simp; done) | (go_simp; rfl)); (case hp => exact (Reps.none _ _)); intro v327 w3 ho4 hb hg_ hnew_; clear hg_ hnew_; (first | rw [← Ny326.out] at ho4 | (simp only [Int.reduceToNat] at ho4; rw [← Ny326.out] at ho4)); have n0_ := Aside0.mk (Kd.R_lower ho4 bz_); have n1_ := Aside0.mk (bs_ hb); clear HB; have HO328 := n0_; have HB := n1_; clear n0_ n1_; clear hb ho4))
  go_loopg [4, 5] k (fun kq v4 v5 w' => ∃ (x4_1 : List (S67)) (x5_1 : Int), v5 = .int .i64 x5_1 ∧ Aside0 (impl_ReadItems.l0 kq a0 x4_1 x5_1 = some (r1, r2)) ∧ Aside0 (kq ≤ k) ∧ Aside0 (Kd.R k67 67 w' w.heap.size (fun _ => True) v4 x4_1) ∧ Aside0 (Below w.heap.size w w'))
  case atStart => exact ⟨(y326), (0), fs_, H', ⟨Nat.le_refl _⟩, ⟨by (with_reducible repeat (first | apply Kd.R_alloc | apply Kd.R_drewN | apply Kd.R_drew)); exact HO328.out⟩, ⟨bq_ HB⟩⟩
  case round =>
   clear H'; try clear c2
   try clear c2b0
   try clear c2b1
   try clear p2
   try clear c4
   obtain ⟨x4_1, x5_1, rfl, HA, HK1, HO_4, HB⟩ := hrel; cases gk with
   | zero => exact absurd HA.out (by simp [impl_ReadItems.l0])
   | succ k1 =>
    have H := HA.out; clear HA; simp only [impl_ReadItems.l0] at H; by_cases c5 : x5_1 < (a0.size : Int)
    ·rw [if_pos c5] at H; have c5b0 : decide (x5_1 < (a0.size : Int)) = true := decide_eq_true c5; clear c5; replace H := Option.bind_eq_some_iff.mp H; obtain ⟨⟨t330, t331, t332, t333⟩, A60, H⟩ := H; replace H : (if t333 = true then (impl_ReadItems.j1 k1 a0 x4_1 t330 t331 t332 ((x4_1.length : Int) == 40)) else (impl_ReadItems.j1 k1 a0 x4_1 t330 t331 t332 true)) = some (r1, r2) := H; have A6 := Aside0.mk A60; clear A60; have HC7 := Aside0.mk H; clear H; go_upto_region 7 with (first | ((with_reducible refine gate_callee (f := 67) rfl ?_); refine goesL_ (some 21) rfl rfl Try.func67 (by kernel_rfl) rfl #[.string a0, .int .i64 x5_1] rfl ma_ ?_; (with_reducible refine (impl_takeHead.calls k1 a0 x5_1 t330 t331 t332 t333 _ A6.out).mono ?_); rintro e w8 ⟨rfl, hb⟩; refine ⟨_, rfl, ?_⟩; have n0_ := Aside0.mk (Kd.R_below (by (with_reducible repeat (first | apply Kd.R_alloc | apply Kd.R_drewN | apply Kd.R_drew)); exact HO_4.out) hb); have n1_ := Aside0.mk (bs_ hb); clear HO_4; clear HB; have HO_4 := n0_; have HB := n1_; clear n0_ n1_; (try clear hb); (try clear hb2); (try clear hk); (try clear hi)))
     (try simp only [Act.put, List.setIfInBounds_toArray, List.set_cons_zero, List.set_cons_succ])
     go_cut [32] (fun v32 wc => ∃ (kq : Nat) (x32_6 : Bool), v32 = .bool x32_6 ∧ Aside0 (impl_ReadItems.j1 kq a0 x4_1 t330 t331 t332 x32_6 = some (r1, r2)) ∧ Aside0 (kq ≤ k1) ∧ Aside0 (Kd.R k67 67 wc w.heap.size (fun _ => True) u4 x4_1) ∧ Aside0 (Below w.heap.size w wc))
     case first =>
      have H := HC7.out; clear HC7; by_cases c9 : t333 = true
      ·subst c9; have H1 : (impl_ReadItems.j1 k1 a0 x4_1 t330 t331 t332 ((x4_1.length : Int) == 40)) = some (r1, r2) := by rw [if_pos rfl] at H; exact H
       clear H; have H := H1; clear H1; have H' := Aside0.mk H; clear H; obtain ⟨Ao10, co10, eo10⟩ := Kd.R_slice HO_4.out; subst eo10; go_wp2; go_meet
       case rel => exact ⟨_, (((x4_1.length : Int) == 40)), fs_, H', ⟨by have := HK1.out; first | omega | exact Nat.le_refl _⟩, ⟨by (with_reducible repeat (first | apply Kd.R_alloc | apply Kd.R_drewN | apply Kd.R_drew)); exact HO_4.out⟩, ⟨bq_ HB⟩⟩
      ·replace c9 := Bool.eq_false_iff.mpr c9; subst c9; have H1 : (impl_ReadItems.j1 k1 a0 x4_1 t330 t331 t332 true) = some (r1, r2) := by rw [if_neg (show ¬ (false = true) by decide)] at H; exact H
       clear H; have H := H1; clear H1; have H' := Aside0.mk H; clear H; go_wp2; go_meet
       case rel => exact ⟨_, (true), fs_, H', ⟨by have := HK1.out; first | omega | exact Nat.le_refl _⟩, ⟨by (with_reducible repeat (first | apply Kd.R_alloc | apply Kd.R_drewN | apply Kd.R_drew)); exact HO_4.out⟩, ⟨bq_ HB⟩⟩
     case rest =>
      clear HC7; try clear c2
      try clear c2b0
      try clear c2b1
      try clear p2
      try clear c4
      try clear c5
      try clear c5b0
      try clear c6
      try clear c9
      try clear p2
      obtain ⟨kq, x32_6, rfl, HA, HJ6, HO_4, HB⟩ := hcut; cases kq with
      | zero => exact absurd HA.out (by simp [impl_ReadItems.j1])
      | succ kj6 =>
       have H := HA.out; clear HA; simp only [impl_ReadItems.j1] at H; by_cases c11 : x32_6 = true
       ·subst c11; have H1 : (some (([] : List (S67)), false)) = some (r1, r2) := by rw [if_pos rfl] at H; exact H
        clear H; have H := H1; clear H1; simp only [Option.some.injEq, Prod.mk.injEq] at H; obtain ⟨rfl, rfl⟩ := H; go_wp2; go_ret2; exact ⟨_, er_, by first | exact Kd.R_nil _ _ _ _ _ | exact Kd.N_nil _ _ _ _ _ | exact Kd.V_nil _ _ _ _ _ | exact Kd.Q_nil _ _ _ _ _ | exact Kd.S_nil _ _ _ _ _, bq_ HB⟩
       ·replace c11 := Bool.eq_false_iff.mpr c11; subst c11; have H1 : (if t330 = 0 then (if x4_1.length < 3518437208883 then (impl_ReadItems.l0 kj6 a0 (x4_1 ++ [(⟨1, t331, (⟨#[]⟩ : ByteArray), 0⟩ : S67)]) t332) else (none)) else (if t330 = 2 then (impl_ReadItems.j2 kj6 a0 x4_1 t332 t330 t331 t330 (t330 == 2)) else (impl_ReadItems.j2 kj6 a0 x4_1 t332 t330 t331 t330 (t330 == 3)))) = some (r1, r2) := by rw [if_neg (show ¬ (false = true) by decide)] at H; exact H
        clear H; have H := H1; clear H1; by_cases c12 : t330 = 0
        ·rw [if_pos c12] at H; have c12b0 : (t330 == 0) = true := beq_iff_eq.mpr c12; have c12b1 : (t330 != 0) = false := bne_eq_false_iff_eq.mpr c12; clear c12; by_cases c13 : x4_1.length < 3518437208883
         ·rw [if_pos c13] at H; have LMc13 := Aside0.mk c13; clear c13; obtain ⟨y334, hy334⟩ : ∃ y_ : List (S67), y_ = (x4_1 ++ [(⟨1, t331, (⟨#[]⟩ : ByteArray), 0⟩ : S67)]) := ⟨_, rfl⟩
          replace H : (impl_ReadItems.l0 kj6 a0 y334 t332) = some (r1, r2) := by first | (rw [hy334]; with_reducible exact H) | (have H2_ := (Option.bind_some _ _).symm.trans H; rw [hy334]; with_reducible exact H2_) | (have H2_ := (Option.bind_some _ _).symm.trans H; with_reducible exact H2_) | with_reducible exact H | (rw [hy334]; exact H) | exact H
          have Ny334 := Aside0.mk hy334; clear hy334; have H' := Aside0.mk H; clear H; go_wp2_with (first | ((with_reducible refine gate_builtin (b := .append) (xs := #[.tmp 37, .tmp 40]) rfl ?_); (try (refine gate_guard (by rfl) ?_; dsimp only)); at_builtin; refine Kd.R_append k67 (w0 := w) w.heap.size rfl (.tmp 37) (.tmp 40) 68 67 (.agg #[(.int .i64 0), (.int .i64 0), (.string ⟨#[]⟩), (.int .i64 0)]) 40 rfl Try.underlying68 info67 rfl (by decide) (by omega) u4 x4_1 (⟨1, t331, (⟨#[]⟩ : ByteArray), 0⟩ : S67) [.int .i64 1, .int .i64 t331, .string (⟨#[]⟩ : ByteArray), .int .i64 0] (fun _ => True) (fun _ => False) rfl rfl ?aP (fun _ hk => hk.elim) ?aF ?aO ?aB ?aS ?aL ?_; (case aP => exact k67_mkM _ _ _ (⟨1, t331, (⟨#[]⟩ : ByteArray), 0⟩ : S67)); (case aB => exact (bq_ HB)); (case aF => exact (fun _ _ => trivial)); (case aO => exact (by (with_reducible repeat (first | apply Kd.R_alloc | apply Kd.R_drewN | apply Kd.R_drew)); exact HO_4.out)); (case aS => exact bz_); (case aL => have := LMc13.out; omega); intro v335 w14 ho hb hg hat; rw [← Ny334.out] at ho; have n0_ := Aside0.mk (hb); have n1_ := Aside0.mk (ho); clear HB; clear HO_4; have HB := n0_; have HO336 := n1_; clear n0_ n1_; clear ho hb hg hat)); go_roundg kj6
          case measure => have := HK1.out; have := HJ6.out; omega
          case rel => exact ⟨(y334), (t332), fs_, H', ⟨by have := HK1.out; have := HJ6.out; omega⟩, ⟨by (with_reducible repeat (first | apply Kd.R_alloc | apply Kd.R_drewN | apply Kd.R_drew)); exact HO336.out⟩, ⟨bq_ HB⟩⟩
         ·rw [if_neg c13] at H; exact no_ H
        ·rw [if_neg c12] at H; have c12b0 : (t330 == 0) = false := beq_eq_false_iff_ne.mpr c12; have c12b1 : (t330 != 0) = true := bne_iff_ne.mpr c12; have HC15 := Aside0.mk H; clear H
         go_upto_if 42 with (fail)
         go_cut [42] (fun v42 wc => ∃ (kq : Nat) (x42_14 : Bool), v42 = .bool x42_14 ∧ Aside0 (impl_ReadItems.j2 kq a0 x4_1 t332 t330 t331 t330 x42_14 = some (r1, r2)) ∧ Aside0 (kq ≤ kj6) ∧ Aside0 (Kd.R k67 67 wc w.heap.size (fun _ => True) u4 x4_1) ∧ Aside0 (Below w.heap.size w wc))
         case first =>
          have H := HC15.out; clear HC15; by_cases c16 : t330 = 2
          ·rw [if_pos c16] at H; have c16b0 : (t330 == 2) = true := beq_iff_eq.mpr c16; have c16b1 : (t330 != 2) = false := bne_eq_false_iff_eq.mpr c16; clear c16; (first | rw [c16b0] | (simp only [i64_w, i32_w]; rw [c16b0]) | skip); have H' := Aside0.mk H; clear H; go_wp2; go_meet
           case rel => exact ⟨_, ((t330 == 2)), fs_, H', ⟨by have := HK1.out; have := HJ6.out; first | omega | exact Nat.le_refl _⟩, ⟨by (with_reducible repeat (first | apply Kd.R_alloc | apply Kd.R_drewN | apply Kd.R_drew)); exact HO_4.out⟩, ⟨bq_ HB⟩⟩
          ·rw [if_neg c16] at H; have c16b0 : (t330 == 2) = false := beq_eq_false_iff_ne.mpr c16; have c16b1 : (t330 != 2) = true := bne_iff_ne.mpr c16; (first | rw [c16b0] | (simp only [i64_w, i32_w]; rw [c16b0]) | skip); have H' := Aside0.mk H; clear H; go_wp2; go_meet
           case rel => exact ⟨_, ((t330 == 3)), fs_, H', ⟨by have := HK1.out; have := HJ6.out; first | omega | exact Nat.le_refl _⟩, ⟨by (with_reducible repeat (first | apply Kd.R_alloc | apply Kd.R_drewN | apply Kd.R_drew)); exact HO_4.out⟩, ⟨bq_ HB⟩⟩
         case rest =>
          clear HC15; try clear c1
          try clear c2
          try clear c2b0
          try clear c2b1
          try clear p2
          try clear c4
          try clear c5
          try clear c5b0
          try clear c6
          try clear c9
          try clear c11
          try clear c12
          try clear c12b0
          try clear c12b1
          try clear c13
          try clear c16
          try clear c16b0
          try clear c16b1
          try clear p2
          obtain ⟨kq, x42_14, rfl, HA, HJ14, HO_4, HB⟩ := hcut; cases kq with
          | zero => exact absurd HA.out (by simp [impl_ReadItems.j2])
          | succ kj14 =>
           have H := HA.out; clear HA; simp only [impl_ReadItems.j2] at H; by_cases c17 : x42_14 = true
           ·subst c17; have H1 : (if t331 > (wrap64 ((a0.size : Int) - t332)) then (some (([] : List (S67)), false)) else (if 0 ≤ t332 then (if t332 ≤ (wrap64 (t332 + t331)) then (if (wrap64 (t332 + t331)) ≤ (a0.size : Int) then (if x4_1.length < 3518437208883 then (impl_ReadItems.l0 kj14 a0 (x4_1 ++ [(⟨t330, 0, a0.extract (t332 : Int).toNat ((wrap64 (t332 + t331)) : Int).toNat, 0⟩ : S67)]) (wrap64 (t332 + t331))) else (none)) else (none)) else (none)) else (none))) = some (r1, r2) := by rw [if_pos rfl] at H; exact H
            clear H; have H := H1; clear H1; by_cases c18 : t331 > (wrap64 ((a0.size : Int) - t332))
            ·rw [if_pos c18] at H; have c18b0 : decide ((wrap64 ((a0.size : Int) - t332)) < t331) = true := decide_eq_true c18; clear c18; simp only [Option.some.injEq, Prod.mk.injEq] at H; obtain ⟨rfl, rfl⟩ := H; go_wp2; go_ret2; exact ⟨_, er_, by first | exact Kd.R_nil _ _ _ _ _ | exact Kd.N_nil _ _ _ _ _ | exact Kd.V_nil _ _ _ _ _ | exact Kd.Q_nil _ _ _ _ _ | exact Kd.S_nil _ _ _ _ _, bq_ HB⟩
            ·rw [if_neg c18] at H; have c18b0 : decide ((wrap64 ((a0.size : Int) - t332)) < t331) = false := decide_eq_false c18; clear c18; by_cases c19 : 0 ≤ t332
             ·rw [if_pos c19] at H; have c19b0 := eq_true c19; have c19b1 : decide (0 ≤ t332) = true := decide_eq_true c19; clear c19; by_cases c20 : t332 ≤ (wrap64 (t332 + t331))
              ·rw [if_pos c20] at H; have c20b0 := eq_true c20; have c20b1 : decide (t332 ≤ (wrap64 (t332 + t331))) = true := decide_eq_true c20; by_cases c21 : (wrap64 (t332 + t331)) ≤ (a0.size : Int)
               ·rw [if_pos c21] at H; have c21b0 := eq_true c21; have c21b1 : decide ((wrap64 (t332 + t331)) ≤ (a0.size : Int)) = true := decide_eq_true c21; by_cases c22 : x4_1.length < 3518437208883
                ·rw [if_pos c22] at H; have LMc22 := Aside0.mk c22; clear c22; obtain ⟨y337, hy337⟩ : ∃ y_ : List (S67), y_ = (x4_1 ++ [(⟨t330, 0, a0.extract (t332 : Int).toNat ((wrap64 (t332 + t331)) : Int).toNat, 0⟩ : S67)]) := ⟨_, rfl⟩
                 replace H : (impl_ReadItems.l0 kj14 a0 y337 (wrap64 (t332 + t331))) = some (r1, r2) := by first | (rw [hy337]; with_reducible exact H) | (have H2_ := (Option.bind_some _ _).symm.trans H; rw [hy337]; with_reducible exact H2_) | (have H2_ := (Option.bind_some _ _).symm.trans H; with_reducible exact H2_) | with_reducible exact H | (rw [hy337]; exact H) | exact H
                 have Ny337 := Aside0.mk hy337; clear hy337; have H' := Aside0.mk H; clear H; go_wp2_with (first | ((with_reducible refine gate_builtin (b := .append) (xs := #[.tmp 51, .tmp 60]) rfl ?_); (try (refine gate_guard (by rfl) ?_; dsimp only)); at_builtin; refine Kd.R_append k67 (w0 := w) w.heap.size rfl (.tmp 51) (.tmp 60) 68 67 (.agg #[(.int .i64 0), (.int .i64 0), (.string ⟨#[]⟩), (.int .i64 0)]) 40 rfl Try.underlying68 info67 rfl (by decide) (by omega) u4 x4_1 (⟨t330, 0, a0.extract (t332 : Int).toNat ((wrap64 (t332 + t331)) : Int).toNat, 0⟩ : S67) [.int .i64 t330, .int .i64 0, .string (a0.extract (t332 : Int).toNat ((wrap64 (t332 + t331)) : Int).toNat), .int .i64 0] (fun _ => True) (fun _ => False) rfl rfl ?aP (fun _ hk => hk.elim) ?aF ?aO ?aB ?aS ?aL ?_; (case aP => exact k67_mkM _ _ _ (⟨t330, 0, a0.extract (t332 : Int).toNat ((wrap64 (t332 + t331)) : Int).toNat, 0⟩ : S67)); (case aB => exact (bq_ HB)); (case aF => exact (fun _ _ => trivial)); (case aO => exact (by (with_reducible repeat (first | apply Kd.R_alloc | apply Kd.R_drewN | apply Kd.R_drew)); exact HO_4.out)); (case aS => exact bz_); (case aL => have := LMc22.out; omega); intro v338 w23 ho hb hg hat; rw [← Ny337.out] at ho; have n0_ := Aside0.mk (hb); have n1_ := Aside0.mk (ho); clear HB; clear HO_4; have HB := n0_; have HO339 := n1_; clear n0_ n1_; clear ho hb hg hat)); go_roundg kj14
                 case measure => have := HK1.out; have := HJ6.out; have := HJ14.out; omega
                 case rel => exact ⟨(y337), (wrap64 (t332 + t331)), fs_, H', ⟨by have := HK1.out; have := HJ6.out; have := HJ14.out; omega⟩, ⟨by (with_reducible repeat (first | apply Kd.R_alloc | apply Kd.R_drewN | apply Kd.R_drew)); exact HO339.out⟩, ⟨bq_ HB⟩⟩
                ·rw [if_neg c22] at H; exact no_ H
               ·rw [if_neg c21] at H; exact no_ H
              ·rw [if_neg c20] at H; exact no_ H
             ·rw [if_neg c19] at H; exact no_ H
           ·replace c17 := Bool.eq_false_iff.mpr c17; subst c17; have H1 : (if t330 = 4 then (if x4_1.length < 3518437208883 then (impl_ReadItems.l0 kj14 a0 (x4_1 ++ [(⟨4, 0, (⟨#[]⟩ : ByteArray), t331⟩ : S67)]) t332) else (none)) else (some (([] : List (S67)), false))) = some (r1, r2) := by rw [if_neg (show ¬ (false = true) by decide)] at H; exact H
            clear H; have H := H1; clear H1; by_cases c24 : t330 = 4
            ·rw [if_pos c24] at H; have c24b0 : (t330 == 4) = true := beq_iff_eq.mpr c24; have c24b1 : (t330 != 4) = false := bne_eq_false_iff_eq.mpr c24; clear c24; by_cases c25 : x4_1.length < 3518437208883
             ·rw [if_pos c25] at H; have LMc25 := Aside0.mk c25; clear c25; obtain ⟨y340, hy340⟩ : ∃ y_ : List (S67), y_ = (x4_1 ++ [(⟨4, 0, (⟨#[]⟩ : ByteArray), t331⟩ : S67)]) := ⟨_, rfl⟩
              replace H : (impl_ReadItems.l0 kj14 a0 y340 t332) = some (r1, r2) := by first | (rw [hy340]; with_reducible exact H) | (have H2_ := (Option.bind_some _ _).symm.trans H; rw [hy340]; with_reducible exact H2_) | (have H2_ := (Option.bind_some _ _).symm.trans H; with_reducible exact H2_) | with_reducible exact H | (rw [hy340]; exact H) | exact H
              have Ny340 := Aside0.mk hy340; clear hy340; have H' := Aside0.mk H; clear H; go_wp2_with (first | ((with_reducible refine gate_builtin (b := .append) (xs := #[.tmp 67, .tmp 70]) rfl ?_); (try (refine gate_guard (by rfl) ?_; dsimp only)); at_builtin; refine Kd.R_append k67 (w0 := w) w.heap.size rfl (.tmp 67) (.tmp 70) 68 67 (.agg #[(.int .i64 0), (.int .i64 0), (.string ⟨#[]⟩), (.int .i64 0)]) 40 rfl Try.underlying68 info67 rfl (by decide) (by omega) u4 x4_1 (⟨4, 0, (⟨#[]⟩ : ByteArray), t331⟩ : S67) [.int .i64 4, .int .i64 0, .string (⟨#[]⟩ : ByteArray), .int .i64 t331] (fun _ => True) (fun _ => False) rfl rfl ?aP (fun _ hk => hk.elim) ?aF ?aO ?aB ?aS ?aL ?_; (case aP => exact k67_mkM _ _ _ (⟨4, 0, (⟨#[]⟩ : ByteArray), t331⟩ : S67)); (case aB => exact (bq_ HB)); (case aF => exact (fun _ _ => trivial)); (case aO => exact (by (with_reducible repeat (first | apply Kd.R_alloc | apply Kd.R_drewN | apply Kd.R_drew)); exact HO_4.out)); (case aS => exact bz_); (case aL => have := LMc25.out; omega); intro v341 w26 ho hb hg hat; rw [← Ny340.out] at ho; have n0_ := Aside0.mk (hb); have n1_ := Aside0.mk (ho); clear HB; clear HO_4; have HB := n0_; have HO342 := n1_; clear n0_ n1_; clear ho hb hg hat)); go_roundg kj14
              case measure => have := HK1.out; have := HJ6.out; have := HJ14.out; omega
              case rel => exact ⟨(y340), (t332), fs_, H', ⟨by have := HK1.out; have := HJ6.out; have := HJ14.out; omega⟩, ⟨by (with_reducible repeat (first | apply Kd.R_alloc | apply Kd.R_drewN | apply Kd.R_drew)); exact HO342.out⟩, ⟨bq_ HB⟩⟩
             ·rw [if_neg c25] at H; exact no_ H
            ·rw [if_neg c24] at H; have c24b0 : (t330 == 4) = false := beq_eq_false_iff_ne.mpr c24; have c24b1 : (t330 != 4) = true := bne_iff_ne.mpr c24; simp only [Option.some.injEq, Prod.mk.injEq] at H; obtain ⟨rfl, rfl⟩ := H; go_wp2; go_ret2; exact ⟨_, er_, by first | exact Kd.R_nil _ _ _ _ _ | exact Kd.N_nil _ _ _ _ _ | exact Kd.V_nil _ _ _ _ _ | exact Kd.Q_nil _ _ _ _ _ | exact Kd.S_nil _ _ _ _ _, bq_ HB⟩
    ·rw [if_neg c5] at H; have c5b0 : decide (x5_1 < (a0.size : Int)) = false := decide_eq_false c5; clear c5; replace H := Option.bind_eq_some_iff.mp H; obtain ⟨t329, A270, H⟩ := H; replace H : (if t329 = true then (some (x4_1, true)) else (some (([] : List (S67)), false))) = some (r1, r2) := H; have A27 := Aside0.mk A270; clear A270; by_cases c28 : t329 = true
     ·subst c28; have H1 : (some (x4_1, true)) = some (r1, r2) := by rw [if_pos rfl] at H; exact H
      clear H; have H := H1; clear H1; simp only [Option.some.injEq, Prod.mk.injEq] at H; obtain ⟨rfl, rfl⟩ := H; obtain ⟨Ao29, co29, eo29⟩ := Kd.R_slice HO_4.out; subst eo29; go_wp2_with (first | ((with_reducible refine gate_callee (f := 68) rfl ?_); refine goesL_ (some 73) rfl rfl Try.func68 (by kernel_rfl) rfl #[.slice Ao29 x4_1.length co29] rfl ma_ ?_; (with_reducible refine (impl_GoodItems.calls k1 _ _ x4_1 true _ ?side1 ?side2 A27.out).mono ?_); (case side1 => repeat (first | exact (Kd.R_reads' HO_4.out).2.2 | with_reducible first | refine Kd.C_alloc ?_ _ | refine Kd.C_drewN ?_ _ | refine Kd.C_drew ?_)); (case side2 => exact (Kd.R_reads' HO_4.out).2.1); rintro e w30 ⟨rfl, hb⟩; refine ⟨_, rfl, ?_⟩; have n0_ := Aside0.mk (Kd.R_below (by (with_reducible repeat (first | apply Kd.R_alloc | apply Kd.R_drewN | apply Kd.R_drew)); exact HO_4.out) hb); have n1_ := Aside0.mk (bs_ hb); clear HO_4; clear HB; have HO_4 := n0_; have HB := n1_; clear n0_ n1_; (try clear hb); (try clear hb2); (try clear hk); (try clear hi))); go_ret2; exact ⟨_, er_, by (with_reducible repeat (first | apply Kd.R_alloc | apply Kd.R_drewN | apply Kd.R_drew)); exact HO_4.out, bq_ HB⟩
     ·replace c28 := Bool.eq_false_iff.mpr c28; subst c28; have H1 : (some (([] : List (S67)), false)) = some (r1, r2) := by rw [if_neg (show ¬ (false = true) by decide)] at H; exact H
      clear H; have H := H1; clear H1; simp only [Option.some.injEq, Prod.mk.injEq] at H; obtain ⟨rfl, rfl⟩ := H; obtain ⟨Ao31, co31, eo31⟩ := Kd.R_slice HO_4.out; subst eo31; go_wp2_with (first | ((with_reducible refine gate_callee (f := 68) rfl ?_); refine goesL_ (some 73) rfl rfl Try.func68 (by kernel_rfl) rfl #[.slice Ao31 x4_1.length co31] rfl ma_ ?_; (with_reducible refine (impl_GoodItems.calls k1 _ _ x4_1 false _ ?side1 ?side2 A27.out).mono ?_); (case side1 => repeat (first | exact (Kd.R_reads' HO_4.out).2.2 | with_reducible first | refine Kd.C_alloc ?_ _ | refine Kd.C_drewN ?_ _ | refine Kd.C_drew ?_)); (case side2 => exact (Kd.R_reads' HO_4.out).2.1); rintro e w32 ⟨rfl, hb⟩; refine ⟨_, rfl, ?_⟩; have n0_ := Aside0.mk (Kd.R_below (by (with_reducible repeat (first | apply Kd.R_alloc | apply Kd.R_drewN | apply Kd.R_drew)); exact HO_4.out) hb); have n1_ := Aside0.mk (bs_ hb); clear HO_4; clear HB; have HO_4 := n0_; have HB := n1_; clear n0_ n1_; (try clear hb); (try clear hb2); (try clear hk); (try clear hi))); go_ret2; exact ⟨_, er_, by first | exact Kd.R_nil _ _ _ _ _ | exact Kd.N_nil _ _ _ _ _ | exact Kd.V_nil _ _ _ _ _ | exact Kd.Q_nil _ _ _ _ _ | exact Kd.S_nil _ _ _ _ _, bq_ HB⟩
def impl_ReadBundle.j0 : Nat → ByteArray → List (S67) → Bool → Option (Int × Int × Bool × Int × Int × Int × Int × Int × Int × ByteArray × Bool)
 | 0, _, _, _ => none
 | k + 1, x0, x6, x31 => if x31 = true then (some (0, 0, false, 0, 0, 0, 0, 0, 0, (⟨#[]⟩ : ByteArray), false)) else (if 1 < (x6.length : Int) then (if 2 < (x6.length : Int) then (if 3 < (x6.length : Int) then (if 4 < (x6.length : Int) then (if 5 < (x6.length : Int) then (if 6 < (x6.length : Int) then (if 7 < (x6.length : Int) then (if 8 < (x6.length : Int) then (if 9 < (x6.length : Int) then (if 10 < (x6.length : Int) then ((impl_BundleBytes.f k ((rd_T67 x6 1).f1) ((rd_T67 x6 2).f1) (((rd_T67 x6 3).f1) == 1) ((rd_T67 x6 4).f1) ((rd_T67 x6 5).f1) ((rd_T67 x6 6).f1) ((rd_T67 x6 7).f1) ((rd_T67 x6 8).f1) ((rd_T67 x6 9).f1) ((rd_T67 x6 10).f2)).bind fun bt361 => (if bt361.2 = true then (if bt361.1.toList = x0.toList then (some ((rd_T67 x6 1).f1, (rd_T67 x6 2).f1, (((rd_T67 x6 3).f1) == 1), (rd_T67 x6 4).f1, (rd_T67 x6 5).f1, (rd_T67 x6 6).f1, (rd_T67 x6 7).f1, (rd_T67 x6 8).f1, (rd_T67 x6 9).f1, (rd_T67 x6 10).f2, true)) else (some (0, 0, false, 0, 0, 0, 0, 0, 0, (⟨#[]⟩ : ByteArray), false))) else (some (0, 0, false, 0, 0, 0, 0, 0, 0, (⟨#[]⟩ : ByteArray), false)))) else (none)) else (none)) else (none)) else (none)) else (none)) else (none)) else (none)) else (none)) else (none)) else (none))
def impl_ReadBundle.f (k : Nat) (a0 : ByteArray) : Option (Int × Int × Bool × Int × Int × Int × Int × Int × Int × ByteArray × Bool) := (impl_CheckCrc.f k a0).bind fun bt344 => ((impl_ReadItems.f k bt344.1).bind fun bt346 => (if bt344.2 = true then (if bt346.2 = true then (impl_ReadBundle.j0 k a0 bt346.1 ((bt346.1.length : Int) != 11)) else (impl_ReadBundle.j0 k a0 bt346.1 true)) else (impl_ReadBundle.j0 k a0 bt346.1 true)))
theorem impl_ReadBundle.mono_l : ∀ k, (∀ y0 y1 y2, LeO (impl_ReadBundle.j0 k y0 y1 y2) (impl_ReadBundle.j0 (k + 1) y0 y1 y2))
 | 0 => fun _ _ _ r h => by simp [impl_ReadBundle.j0] at h
 | k + 1 => by
  have ih0 := impl_ReadBundle.mono_l k
  ·intro y0 y1 y2; unfold impl_ReadBundle.j0
   repeat' first
   | (with_reducible exact ih0 _ _ _)
   | (with_reducible exact impl_BundleBytes.mono _ _ _ _ _ _ _ _ _ _ _)
   | (with_reducible exact impl_CheckCrc.mono _ _)
   | (with_reducible exact impl_ReadItems.mono _ _)
   | (with_reducible exact LeO.refl _)
   | (with_reducible exact LeO.none _)
   | (with_reducible refine LeO.ite ?_ ?_)
   | (with_reducible refine LeO.bind ?_ (fun _ => ?_))
   | exact ih0 _ _ _
   | exact impl_BundleBytes.mono _ _ _ _ _ _ _ _ _ _ _
   | exact impl_CheckCrc.mono _ _
   | exact impl_ReadItems.mono _ _
   | exact LeO.none _
   | refine LeO.ite ?_ ?_
   | refine LeO.bind ?_ (fun _ => ?_)
theorem impl_ReadBundle.mono : ∀ a0 k, LeO (impl_ReadBundle.f k a0) (impl_ReadBundle.f (k + 1) a0) := by
 intro a0 k; have ih0 := impl_ReadBundle.mono_l k; unfold impl_ReadBundle.f
 repeat' first
   | (with_reducible exact ih0 _ _ _)
   | (with_reducible exact impl_BundleBytes.mono _ _ _ _ _ _ _ _ _ _ _)
   | (with_reducible exact impl_CheckCrc.mono _ _)
   | (with_reducible exact impl_ReadItems.mono _ _)
   | (with_reducible exact LeO.refl _)
   | (with_reducible exact LeO.none _)
   | (with_reducible refine LeO.ite ?_ ?_)
   | (with_reducible refine LeO.bind ?_ (fun _ => ?_))
   | exact ih0 _ _ _
   | exact impl_BundleBytes.mono _ _ _ _ _ _ _ _ _ _ _
   | exact impl_CheckCrc.mono _ _
   | exact impl_ReadItems.mono _ _
   | exact LeO.none _
   | refine LeO.ite ?_ ?_
   | refine LeO.bind ?_ (fun _ => ?_)
def impl_ReadBundle.T5 : Bool × List (List Nat × List Nat) := (true, [([], []), ([0], [0]), ([1], [1]), ([2], [2]), ([], []), ([4], [4]), ([5], [5]), ([6], [6]), ([], []), ([8], [8]), ([9], [9]), ([10], [10]), ([11], [11]), ([], []), ([13], [13]), ([14], [14]), ([15], [15]), ([], []), ([17], [17]), ([18], [18]), ([19], [19]), ([], []), ([21], [21]), ([22], [22]), ([23], [23]), ([], []), ([25], [25]), ([26], [26]), ([27], [27]), ([], []), ([29], [29]), ([30], [30]), ([31], [31]), ([], []), ([33], [33]), ([34], [34]), ([35], [35]), ([], []), ([37], [37]), ([38], [38]), ([39], [39]), ([3, 7, 12, 16, 20, 24, 28, 32, 36, 40], [3, 7, 12, 16, 20, 24, 28, 32, 36, 40]), ([], []), ([42, 41, 0, 1, 2, 3, 4, 5, 6, 7, 8, 9, 10, 11, 12, 13, 14, 15, 16, 17, 18, 19, 20, 21, 22, 23, 24, 25, 26, 27, 28, 29, 30, 31, 32, 33, 34, 35, 36, 37, 38, 39, 40, 41, 42], [41, 42])])
def impl_ReadBundle.B5 : List Nat := [0, 1, 3, 7, 0, 16, 48, 112, 0, 256, 768, 1792, 3840, 0, 8192, 24576, 57344, 0, 131072, 393216, 917504, 0, 2097152, 6291456, 14680064, 0, 33554432, 100663296, 234881024, 0, 536870912, 1610612736, 3758096384, 0, 8589934592, 25769803776, 60129542144, 0, 137438953472, 412316860416, 962072674304, 2199023255551, 0, 8796093022207]
theorem impl_ReadBundle.tab5 : rtab .any (opsOf Try.f20 5) = impl_ReadBundle.T5 := by kernel_rfl
theorem impl_ReadBundle.bits5 : waitsOk impl_ReadBundle.T5.2 impl_ReadBundle.B5 = true := by kernel_rfl
end Go.Proofs.Ytaffjcaohbkmoaa.QFnBundles
