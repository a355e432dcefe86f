import Derived.Test.YtlkbbolkadkedaaQFnCoversx0
import Derived.Test.YtlkbbolkadkedaaQFnCoversx1
import Derived.Test.YtlkbbolkadkedaaSr
import Derived.Test.YtlkbbolkadkedaaSq
namespace Go.Proofs.Ytlkbbolkadkedaa.QFnCovers
open Go.RowKit Go.Proofs.YtlkbbolkadkedaaW.PrintWords Go.Proofs.YtlkbbolkadkedaaW.PrintLast Go.Proofs.YtlkbbolkadkedaaW.PrintMore
attribute [local go_sem] max2_int min2_int max_two min_two max_three min_three max_four min_four   -- for this text's walks alone
set_option linter.unusedVariables false
set_option linter.unusedSimpArgs false
attribute [local go_sem high] eqA46
def laws_samePiles.l0 : Nat → Int → Int → List (S46) → List (S46) → Option (Bool)
 | 0, _, _, _, _ => none
 | k + 1, x15, x16, x239000, x240000 => if x16 < x15 then (if 0 ≤ x16 then (if x16 < (x239000.length : Int) then (if x16 < (x240000.length : Int) then (if (!(((rd_T46 x239000 x16).f0) == ((rd_T46 x240000 x16).f0)) || (!(((rd_T46 x239000 x16).f1) == ((rd_T46 x240000 x16).f1)) || (!(((rd_T46 x239000 x16).f2) == ((rd_T46 x240000 x16).f2)) || (!(((rd_T46 x239000 x16).f3) == ((rd_T46 x240000 x16).f3)) || (!(((rd_T46 x239000 x16).f4) == ((rd_T46 x240000 x16).f4)) || (!(((rd_T46 x239000 x16).f5) == ((rd_T46 x240000 x16).f5)) || (!(((rd_T46 x239000 x16).f6) == ((rd_T46 x240000 x16).f6)) || (!(((rd_T46 x239000 x16).f7) == ((rd_T46 x240000 x16).f7)) || (!(((rd_T46 x239000 x16).f8) == ((rd_T46 x240000 x16).f8)) || (!((((rd_T46 x239000 x16).f9).toList) == (((rd_T46 x240000 x16).f9).toList)))))))))))) = true then (some false) else (laws_samePiles.l0 k x15 (wrap64 (x16 + 1)) x239000 x240000)) else (none)) else (none)) else (none)) else (some true)
def laws_samePiles.f (k : Nat) (l0_0 : List (S46)) (l1_0 : List (S46)) : Option (Bool) := if (l0_0.length : Int) = (l1_0.length : Int) then (laws_samePiles.l0 k (l0_0.length : Int) 0 l0_0 l1_0) else (some false)
theorem laws_samePiles.mono_l : ∀ k, (∀ y0 y1 y2 y3, LeO (laws_samePiles.l0 k y0 y1 y2 y3) (laws_samePiles.l0 (k + 1) y0 y1 y2 y3))
 | 0 => fun _ _ _ _ r h => by simp [laws_samePiles.l0] at h
 | k + 1 => by
  have ih0 := laws_samePiles.mono_l k
  ·intro y0 y1 y2 y3; unfold laws_samePiles.l0
   repeat' first
   | (with_reducible exact ih0 _ _ _ _)
   | (with_reducible exact LeO.refl _)
   | (with_reducible exact LeO.none _)
   | (with_reducible refine LeO.ite ?_ ?_)
   | (with_reducible refine LeO.bind ?_ (fun _ => ?_))
   | exact ih0 _ _ _ _
   | exact LeO.none _
   | refine LeO.ite ?_ ?_
   | refine LeO.bind ?_ (fun _ => ?_)
theorem laws_samePiles.mono : ∀ a0 a1 k, LeO (laws_samePiles.f k a0 a1) (laws_samePiles.f (k + 1) a0 a1) := by
 intro a0 a1 k; have ih0 := laws_samePiles.mono_l k; unfold laws_samePiles.f
 repeat' first
   | (with_reducible exact ih0 _ _ _ _)
   | (with_reducible exact LeO.refl _)
   | (with_reducible exact LeO.none _)
   | (with_reducible refine LeO.ite ?_ ?_)
   | (with_reducible refine LeO.bind ?_ (fun _ => ?_))
   | exact ih0 _ _ _ _
   | exact LeO.none _
   | refine LeO.ite ?_ ?_
   | refine LeO.bind ?_ (fun _ => ?_)
set_option maxHeartbeats 8000000 in
set_option maxRecDepth 100000 in
theorem laws_samePiles.calls (k : Nat) (A0_0 : Option Addr) (c0_0 : Nat) (l0_0 : List (S46)) (A1_0 : Option Addr) (c1_0 : Nat) (l1_0 : List (S46)) (r : Bool) (w : World) (hr0_0 : Kd.C k46 w A0_0 l0_0.length l0_0) (hc0_0 : l0_0.length ≤ c0_0) (hr1_0 : Kd.C k46 w A1_0 l1_0.length l1_0) (hc1_0 : l1_0.length ≤ c1_0) (h : laws_samePiles.f k l0_0 l1_0 = some r) :
  Calls Try.prog 36 #[.agg #[.slice A0_0 l0_0.length c0_0], .agg #[.slice A1_0 l1_0.length c1_0]] w fun e w' => e = .returned (.bool r) ∧ Below w.heap.size w w' := by
 have hu29 := Try.underlying29; have hu46 := Try.underlying46; have HR0_0 := Aside0.mk hr0_0; have HC0_0 := Aside0.mk hc0_0; clear hr0_0 hc0_0; have HR1_0 := Aside0.mk hr1_0; have HC1_0 := Aside0.mk hc1_0; clear hr1_0 hc1_0; have HB := Aside0.mk (Below.refl w.heap.size w); have H : (if (l0_0.length : Int) = (l1_0.length : Int) then (laws_samePiles.l0 k (l0_0.length : Int) 0 l0_0 l1_0) else (some false)) = some r := h; clear h; by_cases c3 : (l0_0.length : Int) = (l1_0.length : Int)
 ·rw [if_pos c3] at H; have c3b0 : ((l0_0.length : Int) == (l1_0.length : Int)) = true := beq_iff_eq.mpr c3; have c3b1 : ((l0_0.length : Int) != (l1_0.length : Int)) = false := bne_eq_false_iff_eq.mpr c3; have c3b2 : (l0_0.length == l1_0.length) = true := by first | simpa using c3 | (simp at c3 ⊢; omega)
  clear c3; have H' := Aside0.mk H; clear H
  go_enter Try.func36, Try.ntmps36
  go_wp2_with (first | ((with_reducible refine gate_dst (N := 2) rfl ?_); refine be_ 2 29 #[.slice A0_0 l0_0.length c0_0] ?_; intro gb238 hg w4 hbox hb; have BK238 := Aside0.mk (hbox); have GW238 := ge_ HB hg; have GE238 := ge_ HB hg; replace HB := hb_ HB hb; clear hb hbox hg) | ((with_reducible refine gate_dst (N := 3) rfl ?_); refine be_ 3 29 #[.slice A1_0 l1_0.length c1_0] ?_; intro gb239 hg w5 hbox hb; have BK239 := Aside0.mk (hbox); have GW239 := ge_ HB hg; have GE239 := ge_ HB hg; replace HB := hb_ HB hb; have NB238_239 := nl_ BK238 hg; have NB239_238 := ng_ BK238 hg; replace BK238 := ba_ BK238 hb; clear hb hbox hg; have hnb6 := NB238_239.out; have hnc6 := NB239_238.out; have hcz7_0 : w5.cell? ⟨gb238, 0, none⟩ = some (.slice A0_0 l0_0.length c0_0) := (blk_cell BK238.out 0).trans rfl; have hfz7_0 := blk_frozen BK238.out 0; have hcz8_0 : w5.cell? ⟨gb239, 0, none⟩ = some (.slice A1_0 l1_0.length c1_0) := (blk_cell BK239.out 0).trans rfl; have hfz8_0 := blk_frozen BK239.out 0))
  repeat (go_quiet (first | ((with_reducible refine gate_dst (N := 2) rfl ?_); refine be_ 2 29 #[.slice A0_0 l0_0.length c0_0] ?_; intro gb238 hg w4 hbox hb; have BK238 := Aside0.mk (hbox); have GW238 := ge_ HB hg; have GE238 := ge_ HB hg; replace HB := hb_ HB hb; clear hb hbox hg) | ((with_reducible refine gate_dst (N := 3) rfl ?_); refine be_ 3 29 #[.slice A1_0 l1_0.length c1_0] ?_; intro gb239 hg w5 hbox hb; have BK239 := Aside0.mk (hbox); have GW239 := ge_ HB hg; have GE239 := ge_ HB hg; replace HB := hb_ HB hb; have NB238_239 := nl_ BK238 hg; have NB239_238 := ng_ BK238 hg; replace BK238 := ba_ BK238 hb; clear hb hbox hg; have hnb6 := NB238_239.out; have hnc6 := NB239_238.out; have hcz7_0 : w5.cell? ⟨gb238, 0, none⟩ = some (.slice A0_0 l0_0.length c0_0) := (blk_cell BK238.out 0).trans rfl; have hfz7_0 := blk_frozen BK238.out 0; have hcz8_0 : w5.cell? ⟨gb239, 0, none⟩ = some (.slice A1_0 l1_0.length c1_0) := (blk_cell BK239.out 0).trans rfl; have hfz8_0 := blk_frozen BK239.out 0)); try go_wp2_with (first | ((with_reducible refine gate_dst (N := 2) rfl ?_); refine be_ 2 29 #[.slice A0_0 l0_0.length c0_0] ?_; intro gb238 hg w4 hbox hb; have BK238 := Aside0.mk (hbox); have GW238 := ge_ HB hg; have GE238 := ge_ HB hg; replace HB := hb_ HB hb; clear hb hbox hg) | ((with_reducible refine gate_dst (N := 3) rfl ?_); refine be_ 3 29 #[.slice A1_0 l1_0.length c1_0] ?_; intro gb239 hg w5 hbox hb; have BK239 := Aside0.mk (hbox); have GW239 := ge_ HB hg; have GE239 := ge_ HB hg; replace HB := hb_ HB hb; have NB238_239 := nl_ BK238 hg; have NB239_238 := ng_ BK238 hg; replace BK238 := ba_ BK238 hb; clear hb hbox hg; have hnb6 := NB238_239.out; have hnc6 := NB239_238.out; have hcz7_0 : w5.cell? ⟨gb238, 0, none⟩ = some (.slice A0_0 l0_0.length c0_0) := (blk_cell BK238.out 0).trans rfl; have hfz7_0 := blk_frozen BK238.out 0; have hcz8_0 : w5.cell? ⟨gb239, 0, none⟩ = some (.slice A1_0 l1_0.length c1_0) := (blk_cell BK239.out 0).trans rfl; have hfz8_0 := blk_frozen BK239.out 0)))
  go_loopg [16] k (fun kq v16 w' => ∃ (x16_1 : Int), v16 = .int .i64 x16_1 ∧ Aside0 (laws_samePiles.l0 kq (l0_0.length : Int) x16_1 l0_0 l1_0 = some r) ∧ Aside0 (kq ≤ k) ∧ Aside0 (w'.heap[gb238]? = some (.cells #[(.slice A0_0 l0_0.length c0_0)] 29 (0, 0))) ∧ Aside0 (w'.heap[gb239]? = some (.cells #[(.slice A1_0 l1_0.length c1_0)] 29 (0, 0))) ∧ Aside0 (Below w.heap.size w w'))
  case atStart => exact ⟨(0), fs_, H', ⟨Nat.le_refl _⟩, ⟨pq_⟩, ⟨pq_⟩, ⟨bq_ HB⟩⟩
  case round =>
   clear H'; try clear c1
   try clear p2
   try clear c3
   try clear c3b0
   try clear c3b1
   try clear c3b2
   try clear c6
   try clear hcz7_0
   try clear hcz8_0
   try clear hfz7_0
   try clear hfz8_0
   obtain ⟨x16_1, rfl, HA, HK1, BK238, BK239, HB⟩ := hrel; cases gk with
   | zero => exact absurd HA.out (by simp [laws_samePiles.l0])
   | succ k1 =>
    have H := HA.out; clear HA; simp only [laws_samePiles.l0] at H; by_cases c9 : x16_1 < (l0_0.length : Int)
    ·rw [if_pos c9] at H; have c9b0 : decide (x16_1 < (l0_0.length : Int)) = true := decide_eq_true c9; clear c9; by_cases c10 : 0 ≤ x16_1
     ·rw [if_pos c10] at H; have c10b0 : decide (0 ≤ x16_1) = true := decide_eq_true c10; clear c10; by_cases c11 : x16_1 < (l0_0.length : Int)
      ·rw [if_pos c11] at H; have c11b0 : decide (x16_1 < (l0_0.length : Int)) = true := decide_eq_true c11; clear c11; by_cases c12 : x16_1 < (l1_0.length : Int)
       ·rw [if_pos c12] at H; have c12b0 : decide (x16_1 < (l1_0.length : Int)) = true := decide_eq_true c12; clear c12; by_cases c13 : (!(((rd_T46 l0_0 x16_1).f0) == ((rd_T46 l1_0 x16_1).f0)) || (!(((rd_T46 l0_0 x16_1).f1) == ((rd_T46 l1_0 x16_1).f1)) || (!(((rd_T46 l0_0 x16_1).f2) == ((rd_T46 l1_0 x16_1).f2)) || (!(((rd_T46 l0_0 x16_1).f3) == ((rd_T46 l1_0 x16_1).f3)) || (!(((rd_T46 l0_0 x16_1).f4) == ((rd_T46 l1_0 x16_1).f4)) || (!(((rd_T46 l0_0 x16_1).f5) == ((rd_T46 l1_0 x16_1).f5)) || (!(((rd_T46 l0_0 x16_1).f6) == ((rd_T46 l1_0 x16_1).f6)) || (!(((rd_T46 l0_0 x16_1).f7) == ((rd_T46 l1_0 x16_1).f7)) || (!(((rd_T46 l0_0 x16_1).f8) == ((rd_T46 l1_0 x16_1).f8)) || (!((((rd_T46 l0_0 x16_1).f9).toList) == (((rd_T46 l1_0 x16_1).f9).toList)))))))))))) = true
        ·rw [if_pos c13] at H; have c13b0 : (!(((rd_T46 l0_0 x16_1).f0) == ((rd_T46 l1_0 x16_1).f0)) || (!(((rd_T46 l0_0 x16_1).f1) == ((rd_T46 l1_0 x16_1).f1)) || (!(((rd_T46 l0_0 x16_1).f2) == ((rd_T46 l1_0 x16_1).f2)) || (!(((rd_T46 l0_0 x16_1).f3) == ((rd_T46 l1_0 x16_1).f3)) || (!(((rd_T46 l0_0 x16_1).f4) == ((rd_T46 l1_0 x16_1).f4)) || (!(((rd_T46 l0_0 x16_1).f5) == ((rd_T46 l1_0 x16_1).f5)) || (!(((rd_T46 l0_0 x16_1).f6) == ((rd_T46 l1_0 x16_1).f6)) || (!(((rd_T46 l0_0 x16_1).f7) == ((rd_T46 l1_0 x16_1).f7)) || (!(((rd_T46 l0_0 x16_1).f8) == ((rd_T46 l1_0 x16_1).f8)) || (!((((rd_T46 l0_0 x16_1).f9).toList) == (((rd_T46 l1_0 x16_1).f9).toList)))))))))))) = true := c13; clear c13; obtain rfl := Option.some.inj H; have hnb14 := NB238_239.out; have hnc14 := NB239_238.out; have hcz15_0 : wr.cell? ⟨gb238, 0, none⟩ = some (.slice A0_0 l0_0.length c0_0) := (blk_cell BK238.out 0).trans rfl; have hfz15_0 := blk_frozen BK238.out 0; have p240 : 0 ≤ (x16_1 : Int) := od_; have q240 : x16_1 < (l0_0.length : Int) := od_; obtain ⟨ad240, e240, hx240_0, hx240_1, hx240_2, hx240_3, hx240_4, hx240_5, hx240_6, hx240_7, hx240_8, hx240_9⟩ := at_T46 HR0_0.out x16_1 p240 q240; cases e240; replace hx240_0 := ce_ HB.out hx240_0; replace hx240_1 := ce_ HB.out hx240_1; replace hx240_2 := ce_ HB.out hx240_2; replace hx240_3 := ce_ HB.out hx240_3; replace hx240_4 := ce_ HB.out hx240_4; replace hx240_5 := ce_ HB.out hx240_5; replace hx240_6 := ce_ HB.out hx240_6; replace hx240_7 := ce_ HB.out hx240_7; replace hx240_8 := ce_ HB.out hx240_8; replace hx240_9 := ce_ HB.out hx240_9; replace p240 := eq_true p240; replace q240 := eq_true q240; have hcz16_0 : wr.cell? ⟨gb239, 0, none⟩ = some (.slice A1_0 l1_0.length c1_0) := (blk_cell BK239.out 0).trans rfl; have hfz16_0 := blk_frozen BK239.out 0; have p241 : 0 ≤ (x16_1 : Int) := od_; have q241 : x16_1 < (l1_0.length : Int) := od_; obtain ⟨ad241, e241, hx241_0, hx241_1, hx241_2, hx241_3, hx241_4, hx241_5, hx241_6, hx241_7, hx241_8, hx241_9⟩ := at_T46 HR1_0.out x16_1 p241 q241; cases e241; replace hx241_0 := ce_ HB.out hx241_0; replace hx241_1 := ce_ HB.out hx241_1; replace hx241_2 := ce_ HB.out hx241_2; replace hx241_3 := ce_ HB.out hx241_3; replace hx241_4 := ce_ HB.out hx241_4; replace hx241_5 := ce_ HB.out hx241_5; replace hx241_6 := ce_ HB.out hx241_6; replace hx241_7 := ce_ HB.out hx241_7; replace hx241_8 := ce_ HB.out hx241_8; replace hx241_9 := ce_ HB.out hx241_9; replace p241 := eq_true p241; replace q241 := eq_true q241; go_wp2
         repeat (go_quiet (fail); try go_wp2)
         go_ret; exact ⟨er_, bq_ HB⟩
        ·rw [if_neg c13] at H; have c13b0 : (!(((rd_T46 l0_0 x16_1).f0) == ((rd_T46 l1_0 x16_1).f0)) || (!(((rd_T46 l0_0 x16_1).f1) == ((rd_T46 l1_0 x16_1).f1)) || (!(((rd_T46 l0_0 x16_1).f2) == ((rd_T46 l1_0 x16_1).f2)) || (!(((rd_T46 l0_0 x16_1).f3) == ((rd_T46 l1_0 x16_1).f3)) || (!(((rd_T46 l0_0 x16_1).f4) == ((rd_T46 l1_0 x16_1).f4)) || (!(((rd_T46 l0_0 x16_1).f5) == ((rd_T46 l1_0 x16_1).f5)) || (!(((rd_T46 l0_0 x16_1).f6) == ((rd_T46 l1_0 x16_1).f6)) || (!(((rd_T46 l0_0 x16_1).f7) == ((rd_T46 l1_0 x16_1).f7)) || (!(((rd_T46 l0_0 x16_1).f8) == ((rd_T46 l1_0 x16_1).f8)) || (!((((rd_T46 l0_0 x16_1).f9).toList) == (((rd_T46 l1_0 x16_1).f9).toList)))))))))))) = false := by simpa using c13
         clear c13; have H' := Aside0.mk H; clear H; have hnb17 := NB238_239.out; have hnc17 := NB239_238.out; have hcz18_0 : wr.cell? ⟨gb238, 0, none⟩ = some (.slice A0_0 l0_0.length c0_0) := (blk_cell BK238.out 0).trans rfl; have hfz18_0 := blk_frozen BK238.out 0; have p240 : 0 ≤ (x16_1 : Int) := od_; have q240 : x16_1 < (l0_0.length : Int) := od_; obtain ⟨ad240, e240, hx240_0, hx240_1, hx240_2, hx240_3, hx240_4, hx240_5, hx240_6, hx240_7, hx240_8, hx240_9⟩ := at_T46 HR0_0.out x16_1 p240 q240; cases e240; replace hx240_0 := ce_ HB.out hx240_0; replace hx240_1 := ce_ HB.out hx240_1; replace hx240_2 := ce_ HB.out hx240_2; replace hx240_3 := ce_ HB.out hx240_3; replace hx240_4 := ce_ HB.out hx240_4; replace hx240_5 := ce_ HB.out hx240_5; replace hx240_6 := ce_ HB.out hx240_6; replace hx240_7 := ce_ HB.out hx240_7; replace hx240_8 := ce_ HB.out hx240_8; replace hx240_9 := ce_ HB.out hx240_9; replace p240 := eq_true p240; replace q240 := eq_true q240; have hcz19_0 : wr.cell? ⟨gb239, 0, none⟩ = some (.slice A1_0 l1_0.length c1_0) := (blk_cell BK239.out 0).trans rfl; have hfz19_0 := blk_frozen BK239.out 0; have p241 : 0 ≤ (x16_1 : Int) := od_; have q241 : x16_1 < (l1_0.length : Int) := od_; obtain ⟨ad241, e241, hx241_0, hx241_1, hx241_2, hx241_3, hx241_4, hx241_5, hx241_6, hx241_7, hx241_8, hx241_9⟩ := at_T46 HR1_0.out x16_1 p241 q241; cases e241; replace hx241_0 := ce_ HB.out hx241_0; replace hx241_1 := ce_ HB.out hx241_1; replace hx241_2 := ce_ HB.out hx241_2; replace hx241_3 := ce_ HB.out hx241_3; replace hx241_4 := ce_ HB.out hx241_4; replace hx241_5 := ce_ HB.out hx241_5; replace hx241_6 := ce_ HB.out hx241_6; replace hx241_7 := ce_ HB.out hx241_7; replace hx241_8 := ce_ HB.out hx241_8; replace hx241_9 := ce_ HB.out hx241_9; replace p241 := eq_true p241; replace q241 := eq_true q241; go_wp2
         repeat (go_quiet (fail); try go_wp2)
         go_roundg k1
         case measure => have := HK1.out; omega
         case rel => exact ⟨(wrap64 (x16_1 + 1)), fs_, H', ⟨by have := HK1.out; omega⟩, ⟨pq_⟩, ⟨pq_⟩, ⟨bq_ HB⟩⟩
       ·rw [if_neg c12] at H; exact no_ H
      ·rw [if_neg c11] at H; exact no_ H
     ·rw [if_neg c10] at H; exact no_ H
    ·rw [if_neg c9] at H; have c9b0 : decide (x16_1 < (l0_0.length : Int)) = false := decide_eq_false c9; clear c9; obtain rfl := Option.some.inj H; go_wp2
     repeat (go_quiet (fail); try go_wp2)
     go_ret; exact ⟨er_, bq_ HB⟩
 ·rw [if_neg c3] at H; have c3b0 : ((l0_0.length : Int) == (l1_0.length : Int)) = false := beq_eq_false_iff_ne.mpr c3; have c3b1 : ((l0_0.length : Int) != (l1_0.length : Int)) = true := bne_iff_ne.mpr c3; have c3b2 : (l0_0.length == l1_0.length) = false := by first | simpa using c3 | (simp at c3 ⊢; omega)
  obtain rfl := Option.some.inj H
  go_enter Try.func36, Try.ntmps36
  go_wp2_with (first | ((with_reducible refine gate_dst (N := 2) rfl ?_); refine be_ 2 29 #[.slice A0_0 l0_0.length c0_0] ?_; intro gb238 hg w20 hbox hb; have BK238 := Aside0.mk (hbox); have GW238 := ge_ HB hg; have GE238 := ge_ HB hg; replace HB := hb_ HB hb; clear hb hbox hg) | ((with_reducible refine gate_dst (N := 3) rfl ?_); refine be_ 3 29 #[.slice A1_0 l1_0.length c1_0] ?_; intro gb239 hg w21 hbox hb; have BK239 := Aside0.mk (hbox); have GW239 := ge_ HB hg; have GE239 := ge_ HB hg; replace HB := hb_ HB hb; have NB238_239 := nl_ BK238 hg; have NB239_238 := ng_ BK238 hg; replace BK238 := ba_ BK238 hb; clear hb hbox hg; have hnb22 := NB238_239.out; have hnc22 := NB239_238.out; have hcz23_0 : w21.cell? ⟨gb238, 0, none⟩ = some (.slice A0_0 l0_0.length c0_0) := (blk_cell BK238.out 0).trans rfl; have hfz23_0 := blk_frozen BK238.out 0; have hcz24_0 : w21.cell? ⟨gb239, 0, none⟩ = some (.slice A1_0 l1_0.length c1_0) := (blk_cell BK239.out 0).trans rfl; have hfz24_0 := blk_frozen BK239.out 0))
  repeat (go_quiet (first | ((with_reducible refine gate_dst (N := 2) rfl ?_); refine be_ 2 29 #[.slice A0_0 l0_0.length c0_0] ?_; intro gb238 hg w20 hbox hb; have BK238 := Aside0.mk (hbox); have GW238 := ge_ HB hg; have GE238 := ge_ HB hg; replace HB := hb_ HB hb; clear hb hbox hg) | ((with_reducible refine gate_dst (N := 3) rfl ?_); refine be_ 3 29 #[.slice A1_0 l1_0.length c1_0] ?_; intro gb239 hg w21 hbox hb; have BK239 := Aside0.mk (hbox); have GW239 := ge_ HB hg; have GE239 := ge_ HB hg; replace HB := hb_ HB hb; have NB238_239 := nl_ BK238 hg; have NB239_238 := ng_ BK238 hg; replace BK238 := ba_ BK238 hb; clear hb hbox hg; have hnb22 := NB238_239.out; have hnc22 := NB239_238.out; have hcz23_0 : w21.cell? ⟨gb238, 0, none⟩ = some (.slice A0_0 l0_0.length c0_0) := (blk_cell BK238.out 0).trans rfl; have hfz23_0 := blk_frozen BK238.out 0; have hcz24_0 : w21.cell? ⟨gb239, 0, none⟩ = some (.slice A1_0 l1_0.length c1_0) := (blk_cell BK239.out 0).trans rfl; have hfz24_0 := blk_frozen BK239.out 0)); try go_wp2_with (first | ((with_reducible refine gate_dst (N := 2) rfl ?_); refine be_ 2 29 #[.slice A0_0 l0_0.length c0_0] ?_; intro gb238 hg w20 hbox hb; have BK238 := Aside0.mk (hbox); have GW238 := ge_ HB hg; have GE238 := ge_ HB hg; replace HB := hb_ HB hb; clear hb hbox hg) | ((with_reducible refine gate_dst (N := 3) rfl ?_); refine be_ 3 29 #[.slice A1_0 l1_0.length c1_0] ?_; intro gb239 hg w21 hbox hb; have BK239 := Aside0.mk (hbox); have GW239 := ge_ HB hg; have GE239 := ge_ HB hg; replace HB := hb_ HB hb; have NB238_239 := nl_ BK238 hg; have NB239_238 := ng_ BK238 hg; replace BK238 := ba_ BK238 hb; clear hb hbox hg; have hnb22 := NB238_239.out; have hnc22 := NB239_238.out; have hcz23_0 : w21.cell? ⟨gb238, 0, none⟩ = some (.slice A0_0 l0_0.length c0_0) := (blk_cell BK238.out 0).trans rfl; have hfz23_0 := blk_frozen BK238.out 0; have hcz24_0 : w21.cell? ⟨gb239, 0, none⟩ = some (.slice A1_0 l1_0.length c1_0) := (blk_cell BK239.out 0).trans rfl; have hfz24_0 := blk_frozen BK239.out 0)))
  go_ret; exact ⟨er_, bq_ HB⟩
end Go.Proofs.Ytlkbbolkadkedaa.QFnCovers
