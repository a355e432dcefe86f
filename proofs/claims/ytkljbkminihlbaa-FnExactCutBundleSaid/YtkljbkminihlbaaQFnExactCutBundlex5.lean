/- Each Go function that a law reaches as a plain Lean function, and the proof that the Go code comes to just its answers. Written by a program of this work. -/
import Derived.Test.YtkljbkminihlbaaQFnExactCutBundlex0
import Derived.Test.YtkljbkminihlbaaQFnExactCutBundlex4
namespace Go.Proofs.Ytkljbkminihlbaa.QFnExactCutBundle
open Go.RowKit Go.Proofs.YtkljbkminihlbaaW.PrintWords Go.Proofs.YtkljbkminihlbaaW.PrintLast Go.Proofs.YtkljbkminihlbaaW.PrintMore
attribute [local go_sem] max2_int min2_int max_two min_two max_three min_three max_four min_four   -- for this text's walks alone
set_option linter.unusedVariables false
set_option linter.unusedSimpArgs false

/-! ### laws_eqBundleS: function 30 -/
def laws_eqBundleS.l0 : Nat → List (S26) → List (S26) → Int → Option (Bool)
  | 0, _, _, _ => none
  | k + 1, x0, x1, x5 => if x5 < (x0.length : Int) then (if 0 ≤ x5 then (if x5 < (x1.length : Int) then ((laws_eqBundle.f ((rd_T26 x0 x5).f0) ((rd_T26 x0 x5).f1) ((rd_T26 x0 x5).f2) ((rd_T26 x0 x5).f3) ((rd_T26 x0 x5).f4) ((rd_T26 x0 x5).f5) ((rd_T26 x0 x5).f6) ((rd_T26 x0 x5).f7) ((rd_T26 x0 x5).f8) ((rd_T26 x0 x5).f9) ((rd_T26 x1 x5).f0) ((rd_T26 x1 x5).f1) ((rd_T26 x1 x5).f2) ((rd_T26 x1 x5).f3) ((rd_T26 x1 x5).f4) ((rd_T26 x1 x5).f5) ((rd_T26 x1 x5).f6) ((rd_T26 x1 x5).f7) ((rd_T26 x1 x5).f8) ((rd_T26 x1 x5).f9)).bind fun t155 => (if t155 = true then (laws_eqBundleS.l0 k x0 x1 (wrap64 (x5 + 1))) else (some false))) else (none)) else (none)) else (some true)
def laws_eqBundleS.f (k : Nat) (l0 : List (S26)) (l1 : List (S26)) : Option (Bool) := if (l0.length : Int) = (l1.length : Int) then (laws_eqBundleS.l0 k l0 l1 0) else (some false)
theorem laws_eqBundleS.mono_l : ∀ k, (∀ y0 y1 y2, LeO (laws_eqBundleS.l0 k y0 y1 y2) (laws_eqBundleS.l0 (k + 1) y0 y1 y2))
  | 0 => fun _ _ _ r h => by simp [laws_eqBundleS.l0] at h
  | k + 1 => by
    have ih0 := laws_eqBundleS.mono_l k
    · intro y0 y1 y2
      unfold laws_eqBundleS.l0
      repeat' first
      | (with_reducible exact ih0 _ _ _)
      | (with_reducible exact LeO.refl _)
      | (with_reducible exact LeO.none _)
      | (with_reducible refine LeO.ite ?_ ?_)
      | (with_reducible refine LeO.bind ?_ (fun _ => ?_))
      | exact ih0 _ _ _
      | exact LeO.none _
      | refine LeO.ite ?_ ?_
      | refine LeO.bind ?_ (fun _ => ?_)
theorem laws_eqBundleS.mono : ∀ a0 a1 k, LeO (laws_eqBundleS.f k a0 a1) (laws_eqBundleS.f (k + 1) a0 a1) := by
  intro a0 a1 k
  have ih0 := laws_eqBundleS.mono_l k
  unfold laws_eqBundleS.f
  repeat' first
      | (with_reducible exact ih0 _ _ _)
      | (with_reducible exact LeO.refl _)
      | (with_reducible exact LeO.none _)
      | (with_reducible refine LeO.ite ?_ ?_)
      | (with_reducible refine LeO.bind ?_ (fun _ => ?_))
      | exact ih0 _ _ _
      | exact LeO.none _
      | refine LeO.ite ?_ ?_
      | refine LeO.bind ?_ (fun _ => ?_)
def laws_eqBundleS.T6 : Bool × List (List Nat × List Nat) := (true, [([], []), ([], []), ([0, 1], [0, 1]), ([2], [2]), ([], []), ([], []), ([4, 5], [4, 5]), ([6], [6]), ([3, 7], [3, 7]), ([8], [8])])
def laws_eqBundleS.B6 : List Nat := [0, 0, 3, 7, 0, 0, 48, 112, 255, 511]
theorem laws_eqBundleS.tab6 : rtab .any (opsOf Try.f30 6) = laws_eqBundleS.T6 := by kernel_rfl
theorem laws_eqBundleS.bits6 : waitsOk laws_eqBundleS.T6.2 laws_eqBundleS.B6 = true := by kernel_rfl
set_option maxHeartbeats 8000000 in
set_option maxRecDepth 100000 in
theorem laws_eqBundleS.calls (k : Nat) (A0 : Option Addr) (c0 : Nat) (l0 : List (S26)) (A1 : Option Addr) (c1 : Nat) (l1 : List (S26)) (r : Bool) (w : World) (hr0 : Kd.C k26 w A0 l0.length l0) (hc0 : l0.length ≤ c0) (hr1 : Kd.C k26 w A1 l1.length l1) (hc1 : l1.length ≤ c1) (h : laws_eqBundleS.f k l0 l1 = some r) :
    Calls Try.prog 30 #[.slice A0 l0.length c0, .slice A1 l1.length c1] w fun e w' => e = .returned (.bool r) ∧ Below w.heap.size w w' := by
  have hu26 := Try.underlying26
  have HR0 := Aside0.mk hr0
  have HC0 := Aside0.mk hc0
  clear hr0 hc0
  have HR1 := Aside0.mk hr1
  have HC1 := Aside0.mk hc1
  clear hr1 hc1
  have HB := Aside0.mk (Below.refl w.heap.size w)
  have H : (if (l0.length : Int) = (l1.length : Int) then (laws_eqBundleS.l0 k l0 l1 0) else (some false)) = some r := h
  clear h
  by_cases c3 : (l0.length : Int) = (l1.length : Int)
  · rw [if_pos c3] at H
    have c3b0 : ((l0.length : Int) == (l1.length : Int)) = true := beq_iff_eq.mpr c3
    have c3b1 : ((l0.length : Int) != (l1.length : Int)) = false := bne_eq_false_iff_eq.mpr c3
    have c3b2 : (l0.length == l1.length) = true := by first | simpa using c3 | (simp at c3 ⊢; omega)
    clear c3
    have H' := Aside0.mk H
    clear H
    go_enter Try.func30, Try.ntmps30
    go_wp2
    go_loopg [5] k (fun kq v5 w' => ∃ (x5_1 : Int), v5 = .int .i64 x5_1 ∧ Aside0 (laws_eqBundleS.l0 kq l0 l1 x5_1 = some r) ∧ Aside0 (kq ≤ k) ∧ Aside0 (Below w.heap.size w w'))
    case atStart => exact ⟨(0), (by first | rfl | (simp; done) | (simp [*]; done)), H', ⟨Nat.le_refl _⟩, ⟨by repeat (first | (with_reducible first | exact HB.out | apply below_alloc | apply pw_below_drewN | apply below_drew1) | exact HB.out | (with_reducible exact Below.refl _ _))⟩⟩
    case round =>
      clear H'
      try clear c1
      try clear p2
      try clear c3
      try clear c3b0
      try clear c3b1
      try clear c3b2
      obtain ⟨x5_1, rfl, HA, HK1, HB⟩ := hrel
      cases gk with
      | zero => exact absurd HA.out (by simp [laws_eqBundleS.l0])
      | succ k1 =>
        have H := HA.out
        clear HA
        simp only [laws_eqBundleS.l0] at H
        by_cases c4 : x5_1 < (l0.length : Int)
        · rw [if_pos c4] at H
          have c4b0 : decide (x5_1 < (l0.length : Int)) = true := decide_eq_true c4
          clear c4
          by_cases c5 : 0 ≤ x5_1
          · rw [if_pos c5] at H
            have c5b0 : decide (0 ≤ x5_1) = true := decide_eq_true c5
            clear c5
            by_cases c6 : x5_1 < (l1.length : Int)
            · rw [if_pos c6] at H
              have c6b0 : decide (x5_1 < (l1.length : Int)) = true := decide_eq_true c6
              clear c6
              replace H := Option.bind_eq_some_iff.mp H
              obtain ⟨t155, A70, H⟩ := H
              replace H : (if t155 = true then (laws_eqBundleS.l0 k1 l0 l1 (wrap64 (x5_1 + 1))) else (some false)) = some r := H
              have A7 := Aside0.mk A70
              clear A70
              by_cases c8 : t155 = true
              · subst c8
                have H1 : (laws_eqBundleS.l0 k1 l0 l1 (wrap64 (x5_1 + 1))) = some r := by rw [if_pos rfl] at H; exact H
                clear H
                have H := H1
                clear H1
                have H' := Aside0.mk H
                clear H
                try go_wp2
                have n0_ := Aside0.mk (below_drew1 HB.out)
                clear HB
                have HB := n0_
                clear n0_
                have p153 : 0 ≤ (x5_1 : Int) := of_decide_eq_true (by first | (with_reducible assumption) | assumption)
                have q153 : x5_1 < (l0.length : Int) := of_decide_eq_true (by first | (with_reducible assumption) | assumption)
                obtain ⟨ad153, e153, hx153_0, hx153_1, hx153_2, hx153_3, hx153_4, hx153_5, hx153_6, hx153_7, hx153_8, hx153_9⟩ := at_T26 HR0.out x5_1 p153 q153
                have hw153_9 := hx153_9
                have hw153_8 := hx153_8
                have hw153_7 := hx153_7
                have hw153_6 := hx153_6
                have hw153_5 := hx153_5
                have hw153_4 := hx153_4
                have hw153_3 := hx153_3
                have hw153_2 := hx153_2
                have hw153_1 := hx153_1
                have hw153_0 := hx153_0
                cases e153
                replace hx153_0 := (HB.out.cell (World.block_lt_of_cell? w _ hx153_0)).trans hx153_0
                replace hx153_1 := (HB.out.cell (World.block_lt_of_cell? w _ hx153_1)).trans hx153_1
                replace hx153_2 := (HB.out.cell (World.block_lt_of_cell? w _ hx153_2)).trans hx153_2
                replace hx153_3 := (HB.out.cell (World.block_lt_of_cell? w _ hx153_3)).trans hx153_3
                replace hx153_4 := (HB.out.cell (World.block_lt_of_cell? w _ hx153_4)).trans hx153_4
                replace hx153_5 := (HB.out.cell (World.block_lt_of_cell? w _ hx153_5)).trans hx153_5
                replace hx153_6 := (HB.out.cell (World.block_lt_of_cell? w _ hx153_6)).trans hx153_6
                replace hx153_7 := (HB.out.cell (World.block_lt_of_cell? w _ hx153_7)).trans hx153_7
                replace hx153_8 := (HB.out.cell (World.block_lt_of_cell? w _ hx153_8)).trans hx153_8
                replace hx153_9 := (HB.out.cell (World.block_lt_of_cell? w _ hx153_9)).trans hx153_9
                replace p153 := eq_true p153
                replace q153 := eq_true q153
                have p154 : 0 ≤ (x5_1 : Int) := of_decide_eq_true (by first | (with_reducible assumption) | assumption)
                have q154 : x5_1 < (l1.length : Int) := of_decide_eq_true (by first | (with_reducible assumption) | assumption)
                obtain ⟨ad154, e154, hx154_0, hx154_1, hx154_2, hx154_3, hx154_4, hx154_5, hx154_6, hx154_7, hx154_8, hx154_9⟩ := at_T26 HR1.out x5_1 p154 q154
                have hw154_9 := hx154_9
                have hw154_8 := hx154_8
                have hw154_7 := hx154_7
                have hw154_6 := hx154_6
                have hw154_5 := hx154_5
                have hw154_4 := hx154_4
                have hw154_3 := hx154_3
                have hw154_2 := hx154_2
                have hw154_1 := hx154_1
                have hw154_0 := hx154_0
                cases e154
                replace hx154_0 := (HB.out.cell (World.block_lt_of_cell? w _ hx154_0)).trans hx154_0
                replace hx154_1 := (HB.out.cell (World.block_lt_of_cell? w _ hx154_1)).trans hx154_1
                replace hx154_2 := (HB.out.cell (World.block_lt_of_cell? w _ hx154_2)).trans hx154_2
                replace hx154_3 := (HB.out.cell (World.block_lt_of_cell? w _ hx154_3)).trans hx154_3
                replace hx154_4 := (HB.out.cell (World.block_lt_of_cell? w _ hx154_4)).trans hx154_4
                replace hx154_5 := (HB.out.cell (World.block_lt_of_cell? w _ hx154_5)).trans hx154_5
                replace hx154_6 := (HB.out.cell (World.block_lt_of_cell? w _ hx154_6)).trans hx154_6
                replace hx154_7 := (HB.out.cell (World.block_lt_of_cell? w _ hx154_7)).trans hx154_7
                replace hx154_8 := (HB.out.cell (World.block_lt_of_cell? w _ hx154_8)).trans hx154_8
                replace hx154_9 := (HB.out.cell (World.block_lt_of_cell? w _ hx154_9)).trans hx154_9
                replace p154 := eq_true p154
                replace q154 := eq_true q154
                refine start_ (n := 10) (S := fun w' => w'.cell? (ad153.add ((x5_1).toNat * 10)) = some (.int .i64 ((rd_T26 l0 x5_1).f0)) ∧ w'.cell? ⟨(ad153.add ((x5_1).toNat * 10)).block, (ad153.add ((x5_1).toNat * 10)).off + 1, none⟩ = some (.int .i64 ((rd_T26 l0 x5_1).f1)) ∧ w'.cell? ⟨(ad153.add ((x5_1).toNat * 10)).block, (ad153.add ((x5_1).toNat * 10)).off + 2, none⟩ = some (.bool ((rd_T26 l0 x5_1).f2)) ∧ w'.cell? ⟨(ad153.add ((x5_1).toNat * 10)).block, (ad153.add ((x5_1).toNat * 10)).off + 3, none⟩ = some (.int .i64 ((rd_T26 l0 x5_1).f3)) ∧ w'.cell? ⟨(ad153.add ((x5_1).toNat * 10)).block, (ad153.add ((x5_1).toNat * 10)).off + 4, none⟩ = some (.int .i64 ((rd_T26 l0 x5_1).f4)) ∧ w'.cell? ⟨(ad153.add ((x5_1).toNat * 10)).block, (ad153.add ((x5_1).toNat * 10)).off + 5, none⟩ = some (.int .i64 ((rd_T26 l0 x5_1).f5)) ∧ w'.cell? ⟨(ad153.add ((x5_1).toNat * 10)).block, (ad153.add ((x5_1).toNat * 10)).off + 6, none⟩ = some (.int .i64 ((rd_T26 l0 x5_1).f6)) ∧ w'.cell? ⟨(ad153.add ((x5_1).toNat * 10)).block, (ad153.add ((x5_1).toNat * 10)).off + 7, none⟩ = some (.int .i64 ((rd_T26 l0 x5_1).f7)) ∧ w'.cell? ⟨(ad153.add ((x5_1).toNat * 10)).block, (ad153.add ((x5_1).toNat * 10)).off + 8, none⟩ = some (.int .i64 ((rd_T26 l0 x5_1).f8)) ∧ w'.cell? ⟨(ad153.add ((x5_1).toNat * 10)).block, (ad153.add ((x5_1).toNat * 10)).off + 9, none⟩ = some (.string ((rd_T26 l0 x5_1).f9)) ∧ w'.cell? (ad154.add ((x5_1).toNat * 10)) = some (.int .i64 ((rd_T26 l1 x5_1).f0)) ∧ w'.cell? ⟨(ad154.add ((x5_1).toNat * 10)).block, (ad154.add ((x5_1).toNat * 10)).off + 1, none⟩ = some (.int .i64 ((rd_T26 l1 x5_1).f1)) ∧ w'.cell? ⟨(ad154.add ((x5_1).toNat * 10)).block, (ad154.add ((x5_1).toNat * 10)).off + 2, none⟩ = some (.bool ((rd_T26 l1 x5_1).f2)) ∧ w'.cell? ⟨(ad154.add ((x5_1).toNat * 10)).block, (ad154.add ((x5_1).toNat * 10)).off + 3, none⟩ = some (.int .i64 ((rd_T26 l1 x5_1).f3)) ∧ w'.cell? ⟨(ad154.add ((x5_1).toNat * 10)).block, (ad154.add ((x5_1).toNat * 10)).off + 4, none⟩ = some (.int .i64 ((rd_T26 l1 x5_1).f4)) ∧ w'.cell? ⟨(ad154.add ((x5_1).toNat * 10)).block, (ad154.add ((x5_1).toNat * 10)).off + 5, none⟩ = some (.int .i64 ((rd_T26 l1 x5_1).f5)) ∧ w'.cell? ⟨(ad154.add ((x5_1).toNat * 10)).block, (ad154.add ((x5_1).toNat * 10)).off + 6, none⟩ = some (.int .i64 ((rd_T26 l1 x5_1).f6)) ∧ w'.cell? ⟨(ad154.add ((x5_1).toNat * 10)).block, (ad154.add ((x5_1).toNat * 10)).off + 7, none⟩ = some (.int .i64 ((rd_T26 l1 x5_1).f7)) ∧ w'.cell? ⟨(ad154.add ((x5_1).toNat * 10)).block, (ad154.add ((x5_1).toNat * 10)).off + 8, none⟩ = some (.int .i64 ((rd_T26 l1 x5_1).f8)) ∧ w'.cell? ⟨(ad154.add ((x5_1).toNat * 10)).block, (ad154.add ((x5_1).toNat * 10)).off + 9, none⟩ = some (.string ((rd_T26 l1 x5_1).f9))) (ds := []) #[false, false, false, false, false, false, false, false, false, false] (by kernel_rfl) rfl rfl ⟨((HB.out.cell (World.block_lt_of_cell? w _ hw153_0)).trans hw153_0), ((HB.out.cell (World.block_lt_of_cell? w _ hw153_1)).trans hw153_1), ((HB.out.cell (World.block_lt_of_cell? w _ hw153_2)).trans hw153_2), ((HB.out.cell (World.block_lt_of_cell? w _ hw153_3)).trans hw153_3), ((HB.out.cell (World.block_lt_of_cell? w _ hw153_4)).trans hw153_4), ((HB.out.cell (World.block_lt_of_cell? w _ hw153_5)).trans hw153_5), ((HB.out.cell (World.block_lt_of_cell? w _ hw153_6)).trans hw153_6), ((HB.out.cell (World.block_lt_of_cell? w _ hw153_7)).trans hw153_7), ((HB.out.cell (World.block_lt_of_cell? w _ hw153_8)).trans hw153_8), ((HB.out.cell (World.block_lt_of_cell? w _ hw153_9)).trans hw153_9), ((HB.out.cell (World.block_lt_of_cell? w _ hw154_0)).trans hw154_0), ((HB.out.cell (World.block_lt_of_cell? w _ hw154_1)).trans hw154_1), ((HB.out.cell (World.block_lt_of_cell? w _ hw154_2)).trans hw154_2), ((HB.out.cell (World.block_lt_of_cell? w _ hw154_3)).trans hw154_3), ((HB.out.cell (World.block_lt_of_cell? w _ hw154_4)).trans hw154_4), ((HB.out.cell (World.block_lt_of_cell? w _ hw154_5)).trans hw154_5), ((HB.out.cell (World.block_lt_of_cell? w _ hw154_6)).trans hw154_6), ((HB.out.cell (World.block_lt_of_cell? w _ hw154_7)).trans hw154_7), ((HB.out.cell (World.block_lt_of_cell? w _ hw154_8)).trans hw154_8), ((HB.out.cell (World.block_lt_of_cell? w _ hw154_9)).trans hw154_9)⟩ (fun hHeld => ?_); refine with_tabW laws_eqBundleS.tab6 laws_eqBundleS.bits6 (fun HT_ HW_ => ?_)
                generalize wr.drew = w9 at HB hx153_0 hx153_1 hx153_2 hx153_3 hx153_4 hx153_5 hx153_6 hx153_7 hx153_8 hx153_9 hx154_0 hx154_1 hx154_2 hx154_3 hx154_4 hx154_5 hx154_6 hx154_7 hx154_8 hx154_9 hHeld ⊢
                refine pure_ (i := 0) (N := some 17) (v := ?_) (a' := ?_) #[true, false, false, false, false, false, false, false, false, false] rfl rfl (any_of HT_.out (by kernel_rfl)) (fun _ _ _ h => h) (Or.inl ⟨by rfl, ?_⟩) ?_ ?_
                rotate_left
                · intro w'
                  go_simp
                  with_reducible rfl
                rotate_left
                · simp only [Act.put, List.setIfInBounds_toArray, List.set_cons_zero, List.set_cons_succ, i64_w, i32_w]
                  rfl
                refine pure_ (i := 1) (N := some 18) (v := ?_) (a' := ?_) #[true, true, false, false, false, false, false, false, false, false] rfl rfl (any_of HT_.out (by kernel_rfl)) (fun _ _ _ h => h) (Or.inl ⟨by rfl, ?_⟩) ?_ ?_
                rotate_left
                · intro w'
                  go_simp
                  with_reducible rfl
                rotate_left
                · simp only [Act.put, List.setIfInBounds_toArray, List.set_cons_zero, List.set_cons_succ, i64_w, i32_w]
                  rfl
                refine pure_ (i := 2) (N := some 19) (v := ?_) (a' := ?_) #[true, true, true, false, false, false, false, false, false, false] rfl rfl (any_of HT_.out (by kernel_rfl)) (fun _ _ _ h => h) (Or.inl ⟨by rfl, ?_⟩) ?_ ?_
                rotate_left
                · intro w'
                  go_simp
                  with_reducible rfl
                rotate_left
                · simp only [Act.put, List.setIfInBounds_toArray, List.set_cons_zero, List.set_cons_succ, i64_w, i32_w]
                  rfl
                refine pure_ (i := 4) (N := some 21) (v := ?_) (a' := ?_) #[true, true, true, false, true, false, false, false, false, false] rfl rfl (any_of HT_.out (by kernel_rfl)) (fun _ _ _ h => h) (Or.inl ⟨by rfl, ?_⟩) ?_ ?_
                rotate_left
                · intro w'
                  go_simp
                  with_reducible rfl
                rotate_left
                · simp only [Act.put, List.setIfInBounds_toArray, List.set_cons_zero, List.set_cons_succ, i64_w, i32_w]
                  rfl
                refine pure_ (i := 5) (N := some 22) (v := ?_) (a' := ?_) #[true, true, true, false, true, true, false, false, false, false] rfl rfl (any_of HT_.out (by kernel_rfl)) (fun _ _ _ h => h) (Or.inl ⟨by rfl, ?_⟩) ?_ ?_
                rotate_left
                · intro w'
                  go_simp
                  with_reducible rfl
                rotate_left
                · simp only [Act.put, List.setIfInBounds_toArray, List.set_cons_zero, List.set_cons_succ, i64_w, i32_w]
                  rfl
                refine pure_ (i := 6) (N := some 23) (v := ?_) (a' := ?_) #[true, true, true, false, true, true, true, false, false, false] rfl rfl (any_of HT_.out (by kernel_rfl)) (fun _ _ _ h => h) (Or.inl ⟨by rfl, ?_⟩) ?_ ?_
                rotate_left
                · intro w'
                  go_simp
                  with_reducible rfl
                rotate_left
                · simp only [Act.put, List.setIfInBounds_toArray, List.set_cons_zero, List.set_cons_succ, i64_w, i32_w]
                  rfl
                refine take_ (i := 3) (N := some 20) (v := ?_) (a' := ?_) #[true, true, true, true, true, true, true, false, false, false] rfl rfl (take_ofW HT_.out HW_.out (by kernel_rfl)) (fun _ _ _ h => h) (Or.inl ⟨by rfl, ?_⟩) hHeld ?_ ?_
                rotate_left
                · rintro w' ⟨s0, s1, s2, s3, s4, s5, s6, s7, s8, s9, s10, s11, s12, s13, s14, s15, s16, s17, s18, s19⟩
                  go_simp
                  with_reducible rfl
                rotate_left
                · simp only [Act.put, List.setIfInBounds_toArray, List.set_cons_zero, List.set_cons_succ, i64_w, i32_w]
                  rfl
                refine take_ (i := 7) (N := some 24) (v := ?_) (a' := ?_) #[true, true, true, true, true, true, true, true, false, false] rfl rfl (take_ofW HT_.out HW_.out (by kernel_rfl)) (fun _ _ _ h => h) (Or.inl ⟨by rfl, ?_⟩) hHeld ?_ ?_
                rotate_left
                · rintro w' ⟨s0, s1, s2, s3, s4, s5, s6, s7, s8, s9, s10, s11, s12, s13, s14, s15, s16, s17, s18, s19⟩
                  go_simp
                  with_reducible rfl
                rotate_left
                · simp only [Act.put, List.setIfInBounds_toArray, List.set_cons_zero, List.set_cons_succ, i64_w, i32_w]
                  rfl
                refine one_ (i := 8) (N := some 25) #[true, true, true, true, true, true, true, true, true, false] rfl rfl (one_of HT_.out (by kernel_rfl)) (by decide) (fun K hK => ?_)
                refine goes_ Try.func23 (by kernel_rfl) rfl #[.agg #[.int .i64 ((rd_T26 l0 x5_1).f0), .int .i64 ((rd_T26 l0 x5_1).f1), .bool ((rd_T26 l0 x5_1).f2), .int .i64 ((rd_T26 l0 x5_1).f3), .int .i64 ((rd_T26 l0 x5_1).f4), .int .i64 ((rd_T26 l0 x5_1).f5), .int .i64 ((rd_T26 l0 x5_1).f6), .int .i64 ((rd_T26 l0 x5_1).f7), .int .i64 ((rd_T26 l0 x5_1).f8), .string ((rd_T26 l0 x5_1).f9)], .agg #[.int .i64 ((rd_T26 l1 x5_1).f0), .int .i64 ((rd_T26 l1 x5_1).f1), .bool ((rd_T26 l1 x5_1).f2), .int .i64 ((rd_T26 l1 x5_1).f3), .int .i64 ((rd_T26 l1 x5_1).f4), .int .i64 ((rd_T26 l1 x5_1).f5), .int .i64 ((rd_T26 l1 x5_1).f6), .int .i64 ((rd_T26 l1 x5_1).f7), .int .i64 ((rd_T26 l1 x5_1).f8), .string ((rd_T26 l1 x5_1).f9)]] (by rfl) rfl rfl (by (try simp only [List.map_toArray, List.map_cons, List.map_nil]); first | done | rfl | (simp only [List.length_drop, List.length_take]; rfl)) ?_
                with_reducible refine (laws_eqBundle.calls ((rd_T26 l0 x5_1).f0) ((rd_T26 l0 x5_1).f1) ((rd_T26 l0 x5_1).f2) ((rd_T26 l0 x5_1).f3) ((rd_T26 l0 x5_1).f4) ((rd_T26 l0 x5_1).f5) ((rd_T26 l0 x5_1).f6) ((rd_T26 l0 x5_1).f7) ((rd_T26 l0 x5_1).f8) ((rd_T26 l0 x5_1).f9) ((rd_T26 l1 x5_1).f0) ((rd_T26 l1 x5_1).f1) ((rd_T26 l1 x5_1).f2) ((rd_T26 l1 x5_1).f3) ((rd_T26 l1 x5_1).f4) ((rd_T26 l1 x5_1).f5) ((rd_T26 l1 x5_1).f6) ((rd_T26 l1 x5_1).f7) ((rd_T26 l1 x5_1).f8) ((rd_T26 l1 x5_1).f9) true _ A7.out).mono ?_
                rintro e w10 ⟨rfl, hb⟩
                refine ⟨_, rfl, ?_⟩
                have n0_ := Aside0.mk (below_step (by repeat (first | (with_reducible first | exact HB.out | apply below_alloc | apply pw_below_drewN | apply below_drew1) | exact HB.out | (with_reducible exact Below.refl _ _))) hb)
                clear HB
                have HB := n0_
                clear n0_
                (try clear hb)
                (try clear hb2)
                (try clear hk)
                (try clear hi)
                refine hK.out _ _ ⟨((HB.out.cell (World.block_lt_of_cell? w _ hw153_0)).trans hw153_0), ((HB.out.cell (World.block_lt_of_cell? w _ hw153_1)).trans hw153_1), ((HB.out.cell (World.block_lt_of_cell? w _ hw153_2)).trans hw153_2), ((HB.out.cell (World.block_lt_of_cell? w _ hw153_3)).trans hw153_3), ((HB.out.cell (World.block_lt_of_cell? w _ hw153_4)).trans hw153_4), ((HB.out.cell (World.block_lt_of_cell? w _ hw153_5)).trans hw153_5), ((HB.out.cell (World.block_lt_of_cell? w _ hw153_6)).trans hw153_6), ((HB.out.cell (World.block_lt_of_cell? w _ hw153_7)).trans hw153_7), ((HB.out.cell (World.block_lt_of_cell? w _ hw153_8)).trans hw153_8), ((HB.out.cell (World.block_lt_of_cell? w _ hw153_9)).trans hw153_9), ((HB.out.cell (World.block_lt_of_cell? w _ hw154_0)).trans hw154_0), ((HB.out.cell (World.block_lt_of_cell? w _ hw154_1)).trans hw154_1), ((HB.out.cell (World.block_lt_of_cell? w _ hw154_2)).trans hw154_2), ((HB.out.cell (World.block_lt_of_cell? w _ hw154_3)).trans hw154_3), ((HB.out.cell (World.block_lt_of_cell? w _ hw154_4)).trans hw154_4), ((HB.out.cell (World.block_lt_of_cell? w _ hw154_5)).trans hw154_5), ((HB.out.cell (World.block_lt_of_cell? w _ hw154_6)).trans hw154_6), ((HB.out.cell (World.block_lt_of_cell? w _ hw154_7)).trans hw154_7), ((HB.out.cell (World.block_lt_of_cell? w _ hw154_8)).trans hw154_8), ((HB.out.cell (World.block_lt_of_cell? w _ hw154_9)).trans hw154_9)⟩ (fun hHeld => ?_)
                clear hK K
                refine norm_ (a' := ?_) ?_ ?_
                rotate_left
                · show Act.put _ (some 25) _ = _
                  simp only [Act.put, List.setIfInBounds_toArray, List.set_cons_zero, List.set_cons_succ, i64_w, i32_w]
                  rfl
                refine pure_ (i := 9) (N := some 26) (v := ?_) (a' := ?_) #[true, true, true, true, true, true, true, true, true, true] rfl rfl (any_of HT_.out (by kernel_rfl)) (fun _ _ _ h => h) (Or.inl ⟨by rfl, ?_⟩) ?_ ?_
                rotate_left
                · intro w'
                  go_simp
                  with_reducible rfl
                rotate_left
                · simp only [Act.put, List.setIfInBounds_toArray, List.set_cons_zero, List.set_cons_succ, i64_w, i32_w]
                  rfl
                refine done_ (done_of HT_.out (by kernel_rfl)) ?_
                try go_wp2
                go_roundg k1
                case measure => have := HK1.out; omega
                case rel => exact ⟨(wrap64 (x5_1 + 1)), (by first | rfl | (simp; done) | (simp [*]; done)), H', ⟨by have := HK1.out; omega⟩, ⟨by repeat (first | (with_reducible first | exact HB.out | apply below_alloc | apply pw_below_drewN | apply below_drew1) | exact HB.out | (with_reducible exact Below.refl _ _))⟩⟩
              · replace c8 := Bool.eq_false_iff.mpr c8
                subst c8
                have H1 : (some false) = some r := by rw [if_neg (show ¬ (false = true) by decide)] at H; exact H
                clear H
                have H := H1
                clear H1
                obtain rfl := Option.some.inj H
                try go_wp2
                have n0_ := Aside0.mk (below_drew1 HB.out)
                clear HB
                have HB := n0_
                clear n0_
                have p153 : 0 ≤ (x5_1 : Int) := of_decide_eq_true (by first | (with_reducible assumption) | assumption)
                have q153 : x5_1 < (l0.length : Int) := of_decide_eq_true (by first | (with_reducible assumption) | assumption)
                obtain ⟨ad153, e153, hx153_0, hx153_1, hx153_2, hx153_3, hx153_4, hx153_5, hx153_6, hx153_7, hx153_8, hx153_9⟩ := at_T26 HR0.out x5_1 p153 q153
                have hw153_9 := hx153_9
                have hw153_8 := hx153_8
                have hw153_7 := hx153_7
                have hw153_6 := hx153_6
                have hw153_5 := hx153_5
                have hw153_4 := hx153_4
                have hw153_3 := hx153_3
                have hw153_2 := hx153_2
                have hw153_1 := hx153_1
                have hw153_0 := hx153_0
                cases e153
                replace hx153_0 := (HB.out.cell (World.block_lt_of_cell? w _ hx153_0)).trans hx153_0
                replace hx153_1 := (HB.out.cell (World.block_lt_of_cell? w _ hx153_1)).trans hx153_1
                replace hx153_2 := (HB.out.cell (World.block_lt_of_cell? w _ hx153_2)).trans hx153_2
                replace hx153_3 := (HB.out.cell (World.block_lt_of_cell? w _ hx153_3)).trans hx153_3
                replace hx153_4 := (HB.out.cell (World.block_lt_of_cell? w _ hx153_4)).trans hx153_4
                replace hx153_5 := (HB.out.cell (World.block_lt_of_cell? w _ hx153_5)).trans hx153_5
                replace hx153_6 := (HB.out.cell (World.block_lt_of_cell? w _ hx153_6)).trans hx153_6
                replace hx153_7 := (HB.out.cell (World.block_lt_of_cell? w _ hx153_7)).trans hx153_7
                replace hx153_8 := (HB.out.cell (World.block_lt_of_cell? w _ hx153_8)).trans hx153_8
                replace hx153_9 := (HB.out.cell (World.block_lt_of_cell? w _ hx153_9)).trans hx153_9
                replace p153 := eq_true p153
                replace q153 := eq_true q153
                have p154 : 0 ≤ (x5_1 : Int) := of_decide_eq_true (by first | (with_reducible assumption) | assumption)
                have q154 : x5_1 < (l1.length : Int) := of_decide_eq_true (by first | (with_reducible assumption) | assumption)
                obtain ⟨ad154, e154, hx154_0, hx154_1, hx154_2, hx154_3, hx154_4, hx154_5, hx154_6, hx154_7, hx154_8, hx154_9⟩ := at_T26 HR1.out x5_1 p154 q154
                have hw154_9 := hx154_9
                have hw154_8 := hx154_8
                have hw154_7 := hx154_7
                have hw154_6 := hx154_6
                have hw154_5 := hx154_5
                have hw154_4 := hx154_4
                have hw154_3 := hx154_3
                have hw154_2 := hx154_2
                have hw154_1 := hx154_1
                have hw154_0 := hx154_0
                cases e154
                replace hx154_0 := (HB.out.cell (World.block_lt_of_cell? w _ hx154_0)).trans hx154_0
                replace hx154_1 := (HB.out.cell (World.block_lt_of_cell? w _ hx154_1)).trans hx154_1
                replace hx154_2 := (HB.out.cell (World.block_lt_of_cell? w _ hx154_2)).trans hx154_2
                replace hx154_3 := (HB.out.cell (World.block_lt_of_cell? w _ hx154_3)).trans hx154_3
                replace hx154_4 := (HB.out.cell (World.block_lt_of_cell? w _ hx154_4)).trans hx154_4
                replace hx154_5 := (HB.out.cell (World.block_lt_of_cell? w _ hx154_5)).trans hx154_5
                replace hx154_6 := (HB.out.cell (World.block_lt_of_cell? w _ hx154_6)).trans hx154_6
                replace hx154_7 := (HB.out.cell (World.block_lt_of_cell? w _ hx154_7)).trans hx154_7
                replace hx154_8 := (HB.out.cell (World.block_lt_of_cell? w _ hx154_8)).trans hx154_8
                replace hx154_9 := (HB.out.cell (World.block_lt_of_cell? w _ hx154_9)).trans hx154_9
                replace p154 := eq_true p154
                replace q154 := eq_true q154
                refine start_ (n := 10) (S := fun w' => w'.cell? (ad153.add ((x5_1).toNat * 10)) = some (.int .i64 ((rd_T26 l0 x5_1).f0)) ∧ w'.cell? ⟨(ad153.add ((x5_1).toNat * 10)).block, (ad153.add ((x5_1).toNat * 10)).off + 1, none⟩ = some (.int .i64 ((rd_T26 l0 x5_1).f1)) ∧ w'.cell? ⟨(ad153.add ((x5_1).toNat * 10)).block, (ad153.add ((x5_1).toNat * 10)).off + 2, none⟩ = some (.bool ((rd_T26 l0 x5_1).f2)) ∧ w'.cell? ⟨(ad153.add ((x5_1).toNat * 10)).block, (ad153.add ((x5_1).toNat * 10)).off + 3, none⟩ = some (.int .i64 ((rd_T26 l0 x5_1).f3)) ∧ w'.cell? ⟨(ad153.add ((x5_1).toNat * 10)).block, (ad153.add ((x5_1).toNat * 10)).off + 4, none⟩ = some (.int .i64 ((rd_T26 l0 x5_1).f4)) ∧ w'.cell? ⟨(ad153.add ((x5_1).toNat * 10)).block, (ad153.add ((x5_1).toNat * 10)).off + 5, none⟩ = some (.int .i64 ((rd_T26 l0 x5_1).f5)) ∧ w'.cell? ⟨(ad153.add ((x5_1).toNat * 10)).block, (ad153.add ((x5_1).toNat * 10)).off + 6, none⟩ = some (.int .i64 ((rd_T26 l0 x5_1).f6)) ∧ w'.cell? ⟨(ad153.add ((x5_1).toNat * 10)).block, (ad153.add ((x5_1).toNat * 10)).off + 7, none⟩ = some (.int .i64 ((rd_T26 l0 x5_1).f7)) ∧ w'.cell? ⟨(ad153.add ((x5_1).toNat * 10)).block, (ad153.add ((x5_1).toNat * 10)).off + 8, none⟩ = some (.int .i64 ((rd_T26 l0 x5_1).f8)) ∧ w'.cell? ⟨(ad153.add ((x5_1).toNat * 10)).block, (ad153.add ((x5_1).toNat * 10)).off + 9, none⟩ = some (.string ((rd_T26 l0 x5_1).f9)) ∧ w'.cell? (ad154.add ((x5_1).toNat * 10)) = some (.int .i64 ((rd_T26 l1 x5_1).f0)) ∧ w'.cell? ⟨(ad154.add ((x5_1).toNat * 10)).block, (ad154.add ((x5_1).toNat * 10)).off + 1, none⟩ = some (.int .i64 ((rd_T26 l1 x5_1).f1)) ∧ w'.cell? ⟨(ad154.add ((x5_1).toNat * 10)).block, (ad154.add ((x5_1).toNat * 10)).off + 2, none⟩ = some (.bool ((rd_T26 l1 x5_1).f2)) ∧ w'.cell? ⟨(ad154.add ((x5_1).toNat * 10)).block, (ad154.add ((x5_1).toNat * 10)).off + 3, none⟩ = some (.int .i64 ((rd_T26 l1 x5_1).f3)) ∧ w'.cell? ⟨(ad154.add ((x5_1).toNat * 10)).block, (ad154.add ((x5_1).toNat * 10)).off + 4, none⟩ = some (.int .i64 ((rd_T26 l1 x5_1).f4)) ∧ w'.cell? ⟨(ad154.add ((x5_1).toNat * 10)).block, (ad154.add ((x5_1).toNat * 10)).off + 5, none⟩ = some (.int .i64 ((rd_T26 l1 x5_1).f5)) ∧ w'.cell? ⟨(ad154.add ((x5_1).toNat * 10)).block, (ad154.add ((x5_1).toNat * 10)).off + 6, none⟩ = some (.int .i64 ((rd_T26 l1 x5_1).f6)) ∧ w'.cell? ⟨(ad154.add ((x5_1).toNat * 10)).block, (ad154.add ((x5_1).toNat * 10)).off + 7, none⟩ = some (.int .i64 ((rd_T26 l1 x5_1).f7)) ∧ w'.cell? ⟨(ad154.add ((x5_1).toNat * 10)).block, (ad154.add ((x5_1).toNat * 10)).off + 8, none⟩ = some (.int .i64 ((rd_T26 l1 x5_1).f8)) ∧ w'.cell? ⟨(ad154.add ((x5_1).toNat * 10)).block, (ad154.add ((x5_1).toNat * 10)).off + 9, none⟩ = some (.string ((rd_T26 l1 x5_1).f9))) (ds := []) #[false, false, false, false, false, false, false, false, false, false] (by kernel_rfl) rfl rfl ⟨((HB.out.cell (World.block_lt_of_cell? w _ hw153_0)).trans hw153_0), ((HB.out.cell (World.block_lt_of_cell? w _ hw153_1)).trans hw153_1), ((HB.out.cell (World.block_lt_of_cell? w _ hw153_2)).trans hw153_2), ((HB.out.cell (World.block_lt_of_cell? w _ hw153_3)).trans hw153_3), ((HB.out.cell (World.block_lt_of_cell? w _ hw153_4)).trans hw153_4), ((HB.out.cell (World.block_lt_of_cell? w _ hw153_5)).trans hw153_5), ((HB.out.cell (World.block_lt_of_cell? w _ hw153_6)).trans hw153_6), ((HB.out.cell (World.block_lt_of_cell? w _ hw153_7)).trans hw153_7), ((HB.out.cell (World.block_lt_of_cell? w _ hw153_8)).trans hw153_8), ((HB.out.cell (World.block_lt_of_cell? w _ hw153_9)).trans hw153_9), ((HB.out.cell (World.block_lt_of_cell? w _ hw154_0)).trans hw154_0), ((HB.out.cell (World.block_lt_of_cell? w _ hw154_1)).trans hw154_1), ((HB.out.cell (World.block_lt_of_cell? w _ hw154_2)).trans hw154_2), ((HB.out.cell (World.block_lt_of_cell? w _ hw154_3)).trans hw154_3), ((HB.out.cell (World.block_lt_of_cell? w _ hw154_4)).trans hw154_4), ((HB.out.cell (World.block_lt_of_cell? w _ hw154_5)).trans hw154_5), ((HB.out.cell (World.block_lt_of_cell? w _ hw154_6)).trans hw154_6), ((HB.out.cell (World.block_lt_of_cell? w _ hw154_7)).trans hw154_7), ((HB.out.cell (World.block_lt_of_cell? w _ hw154_8)).trans hw154_8), ((HB.out.cell (World.block_lt_of_cell? w _ hw154_9)).trans hw154_9)⟩ (fun hHeld => ?_); refine with_tabW laws_eqBundleS.tab6 laws_eqBundleS.bits6 (fun HT_ HW_ => ?_)
                generalize wr.drew = w11 at HB hx153_0 hx153_1 hx153_2 hx153_3 hx153_4 hx153_5 hx153_6 hx153_7 hx153_8 hx153_9 hx154_0 hx154_1 hx154_2 hx154_3 hx154_4 hx154_5 hx154_6 hx154_7 hx154_8 hx154_9 hHeld ⊢
                refine pure_ (i := 0) (N := some 17) (v := ?_) (a' := ?_) #[true, false, false, false, false, false, false, false, false, false] rfl rfl (any_of HT_.out (by kernel_rfl)) (fun _ _ _ h => h) (Or.inl ⟨by rfl, ?_⟩) ?_ ?_
                rotate_left
                · intro w'
                  go_simp
                  with_reducible rfl
                rotate_left
                · simp only [Act.put, List.setIfInBounds_toArray, List.set_cons_zero, List.set_cons_succ, i64_w, i32_w]
                  rfl
                refine pure_ (i := 1) (N := some 18) (v := ?_) (a' := ?_) #[true, true, false, false, false, false, false, false, false, false] rfl rfl (any_of HT_.out (by kernel_rfl)) (fun _ _ _ h => h) (Or.inl ⟨by rfl, ?_⟩) ?_ ?_
                rotate_left
                · intro w'
                  go_simp
                  with_reducible rfl
                rotate_left
                · simp only [Act.put, List.setIfInBounds_toArray, List.set_cons_zero, List.set_cons_succ, i64_w, i32_w]
                  rfl
                refine pure_ (i := 2) (N := some 19) (v := ?_) (a' := ?_) #[true, true, true, false, false, false, false, false, false, false] rfl rfl (any_of HT_.out (by kernel_rfl)) (fun _ _ _ h => h) (Or.inl ⟨by rfl, ?_⟩) ?_ ?_
                rotate_left
                · intro w'
                  go_simp
                  with_reducible rfl
                rotate_left
                · simp only [Act.put, List.setIfInBounds_toArray, List.set_cons_zero, List.set_cons_succ, i64_w, i32_w]
                  rfl
                refine pure_ (i := 4) (N := some 21) (v := ?_) (a' := ?_) #[true, true, true, false, true, false, false, false, false, false] rfl rfl (any_of HT_.out (by kernel_rfl)) (fun _ _ _ h => h) (Or.inl ⟨by rfl, ?_⟩) ?_ ?_
                rotate_left
                · intro w'
                  go_simp
                  with_reducible rfl
                rotate_left
                · simp only [Act.put, List.setIfInBounds_toArray, List.set_cons_zero, List.set_cons_succ, i64_w, i32_w]
                  rfl
                refine pure_ (i := 5) (N := some 22) (v := ?_) (a' := ?_) #[true, true, true, false, true, true, false, false, false, false] rfl rfl (any_of HT_.out (by kernel_rfl)) (fun _ _ _ h => h) (Or.inl ⟨by rfl, ?_⟩) ?_ ?_
                rotate_left
                · intro w'
                  go_simp
                  with_reducible rfl
                rotate_left
                · simp only [Act.put, List.setIfInBounds_toArray, List.set_cons_zero, List.set_cons_succ, i64_w, i32_w]
                  rfl
                refine pure_ (i := 6) (N := some 23) (v := ?_) (a' := ?_) #[true, true, true, false, true, true, true, false, false, false] rfl rfl (any_of HT_.out (by kernel_rfl)) (fun _ _ _ h => h) (Or.inl ⟨by rfl, ?_⟩) ?_ ?_
                rotate_left
                · intro w'
                  go_simp
                  with_reducible rfl
                rotate_left
                · simp only [Act.put, List.setIfInBounds_toArray, List.set_cons_zero, List.set_cons_succ, i64_w, i32_w]
                  rfl
                refine take_ (i := 3) (N := some 20) (v := ?_) (a' := ?_) #[true, true, true, true, true, true, true, false, false, false] rfl rfl (take_ofW HT_.out HW_.out (by kernel_rfl)) (fun _ _ _ h => h) (Or.inl ⟨by rfl, ?_⟩) hHeld ?_ ?_
                rotate_left
                · rintro w' ⟨s0, s1, s2, s3, s4, s5, s6, s7, s8, s9, s10, s11, s12, s13, s14, s15, s16, s17, s18, s19⟩
                  go_simp
                  with_reducible rfl
                rotate_left
                · simp only [Act.put, List.setIfInBounds_toArray, List.set_cons_zero, List.set_cons_succ, i64_w, i32_w]
                  rfl
                refine take_ (i := 7) (N := some 24) (v := ?_) (a' := ?_) #[true, true, true, true, true, true, true, true, false, false] rfl rfl (take_ofW HT_.out HW_.out (by kernel_rfl)) (fun _ _ _ h => h) (Or.inl ⟨by rfl, ?_⟩) hHeld ?_ ?_
                rotate_left
                · rintro w' ⟨s0, s1, s2, s3, s4, s5, s6, s7, s8, s9, s10, s11, s12, s13, s14, s15, s16, s17, s18, s19⟩
                  go_simp
                  with_reducible rfl
                rotate_left
                · simp only [Act.put, List.setIfInBounds_toArray, List.set_cons_zero, List.set_cons_succ, i64_w, i32_w]
                  rfl
                refine one_ (i := 8) (N := some 25) #[true, true, true, true, true, true, true, true, true, false] rfl rfl (one_of HT_.out (by kernel_rfl)) (by decide) (fun K hK => ?_)
                refine goes_ Try.func23 (by kernel_rfl) rfl #[.agg #[.int .i64 ((rd_T26 l0 x5_1).f0), .int .i64 ((rd_T26 l0 x5_1).f1), .bool ((rd_T26 l0 x5_1).f2), .int .i64 ((rd_T26 l0 x5_1).f3), .int .i64 ((rd_T26 l0 x5_1).f4), .int .i64 ((rd_T26 l0 x5_1).f5), .int .i64 ((rd_T26 l0 x5_1).f6), .int .i64 ((rd_T26 l0 x5_1).f7), .int .i64 ((rd_T26 l0 x5_1).f8), .string ((rd_T26 l0 x5_1).f9)], .agg #[.int .i64 ((rd_T26 l1 x5_1).f0), .int .i64 ((rd_T26 l1 x5_1).f1), .bool ((rd_T26 l1 x5_1).f2), .int .i64 ((rd_T26 l1 x5_1).f3), .int .i64 ((rd_T26 l1 x5_1).f4), .int .i64 ((rd_T26 l1 x5_1).f5), .int .i64 ((rd_T26 l1 x5_1).f6), .int .i64 ((rd_T26 l1 x5_1).f7), .int .i64 ((rd_T26 l1 x5_1).f8), .string ((rd_T26 l1 x5_1).f9)]] (by rfl) rfl rfl (by (try simp only [List.map_toArray, List.map_cons, List.map_nil]); first | done | rfl | (simp only [List.length_drop, List.length_take]; rfl)) ?_
                with_reducible refine (laws_eqBundle.calls ((rd_T26 l0 x5_1).f0) ((rd_T26 l0 x5_1).f1) ((rd_T26 l0 x5_1).f2) ((rd_T26 l0 x5_1).f3) ((rd_T26 l0 x5_1).f4) ((rd_T26 l0 x5_1).f5) ((rd_T26 l0 x5_1).f6) ((rd_T26 l0 x5_1).f7) ((rd_T26 l0 x5_1).f8) ((rd_T26 l0 x5_1).f9) ((rd_T26 l1 x5_1).f0) ((rd_T26 l1 x5_1).f1) ((rd_T26 l1 x5_1).f2) ((rd_T26 l1 x5_1).f3) ((rd_T26 l1 x5_1).f4) ((rd_T26 l1 x5_1).f5) ((rd_T26 l1 x5_1).f6) ((rd_T26 l1 x5_1).f7) ((rd_T26 l1 x5_1).f8) ((rd_T26 l1 x5_1).f9) false _ A7.out).mono ?_
                rintro e w12 ⟨rfl, hb⟩
                refine ⟨_, rfl, ?_⟩
                have n0_ := Aside0.mk (below_step (by repeat (first | (with_reducible first | exact HB.out | apply below_alloc | apply pw_below_drewN | apply below_drew1) | exact HB.out | (with_reducible exact Below.refl _ _))) hb)
                clear HB
                have HB := n0_
                clear n0_
                (try clear hb)
                (try clear hb2)
                (try clear hk)
                (try clear hi)
                refine hK.out _ _ ⟨((HB.out.cell (World.block_lt_of_cell? w _ hw153_0)).trans hw153_0), ((HB.out.cell (World.block_lt_of_cell? w _ hw153_1)).trans hw153_1), ((HB.out.cell (World.block_lt_of_cell? w _ hw153_2)).trans hw153_2), ((HB.out.cell (World.block_lt_of_cell? w _ hw153_3)).trans hw153_3), ((HB.out.cell (World.block_lt_of_cell? w _ hw153_4)).trans hw153_4), ((HB.out.cell (World.block_lt_of_cell? w _ hw153_5)).trans hw153_5), ((HB.out.cell (World.block_lt_of_cell? w _ hw153_6)).trans hw153_6), ((HB.out.cell (World.block_lt_of_cell? w _ hw153_7)).trans hw153_7), ((HB.out.cell (World.block_lt_of_cell? w _ hw153_8)).trans hw153_8), ((HB.out.cell (World.block_lt_of_cell? w _ hw153_9)).trans hw153_9), ((HB.out.cell (World.block_lt_of_cell? w _ hw154_0)).trans hw154_0), ((HB.out.cell (World.block_lt_of_cell? w _ hw154_1)).trans hw154_1), ((HB.out.cell (World.block_lt_of_cell? w _ hw154_2)).trans hw154_2), ((HB.out.cell (World.block_lt_of_cell? w _ hw154_3)).trans hw154_3), ((HB.out.cell (World.block_lt_of_cell? w _ hw154_4)).trans hw154_4), ((HB.out.cell (World.block_lt_of_cell? w _ hw154_5)).trans hw154_5), ((HB.out.cell (World.block_lt_of_cell? w _ hw154_6)).trans hw154_6), ((HB.out.cell (World.block_lt_of_cell? w _ hw154_7)).trans hw154_7), ((HB.out.cell (World.block_lt_of_cell? w _ hw154_8)).trans hw154_8), ((HB.out.cell (World.block_lt_of_cell? w _ hw154_9)).trans hw154_9)⟩ (fun hHeld => ?_)
                clear hK K
                refine norm_ (a' := ?_) ?_ ?_
                rotate_left
                · show Act.put _ (some 25) _ = _
                  simp only [Act.put, List.setIfInBounds_toArray, List.set_cons_zero, List.set_cons_succ, i64_w, i32_w]
                  rfl
                refine pure_ (i := 9) (N := some 26) (v := ?_) (a' := ?_) #[true, true, true, true, true, true, true, true, true, true] rfl rfl (any_of HT_.out (by kernel_rfl)) (fun _ _ _ h => h) (Or.inl ⟨by rfl, ?_⟩) ?_ ?_
                rotate_left
                · intro w'
                  go_simp
                  with_reducible rfl
                rotate_left
                · simp only [Act.put, List.setIfInBounds_toArray, List.set_cons_zero, List.set_cons_succ, i64_w, i32_w]
                  rfl
                refine done_ (done_of HT_.out (by kernel_rfl)) ?_
                try go_wp2
                go_ret
                exact ⟨by first | rfl | (simp [errW_none, errW_some] <;> rfl) | (simp [*, errW_none, errW_some] <;> rfl), by repeat (first | (with_reducible first | exact HB.out | apply below_alloc | apply pw_below_drewN | apply below_drew1) | exact HB.out | (with_reducible exact Below.refl _ _))⟩
            · rw [if_neg c6] at H
              exact absurd H (by simp)
          · rw [if_neg c5] at H
            exact absurd H (by simp)
        · rw [if_neg c4] at H
          have c4b0 : decide (x5_1 < (l0.length : Int)) = false := decide_eq_false c4
          clear c4
          obtain rfl := Option.some.inj H
          go_wp2
          go_ret
          exact ⟨by first | rfl | (simp [errW_none, errW_some] <;> rfl) | (simp [*, errW_none, errW_some] <;> rfl), by repeat (first | (with_reducible first | exact HB.out | apply below_alloc | apply pw_below_drewN | apply below_drew1) | exact HB.out | (with_reducible exact Below.refl _ _))⟩
  · rw [if_neg c3] at H
    have c3b0 : ((l0.length : Int) == (l1.length : Int)) = false := beq_eq_false_iff_ne.mpr c3
    have c3b1 : ((l0.length : Int) != (l1.length : Int)) = true := bne_iff_ne.mpr c3
    have c3b2 : (l0.length == l1.length) = false := by first | simpa using c3 | (simp at c3 ⊢; omega)
    obtain rfl := Option.some.inj H
    go_enter Try.func30, Try.ntmps30
    go_wp2
    go_ret
    exact ⟨by first | rfl | (simp [errW_none, errW_some] <;> rfl) | (simp [*, errW_none, errW_some] <;> rfl), by repeat (first | (with_reducible first | exact HB.out | apply below_alloc | apply pw_below_drewN | apply below_drew1) | exact HB.out | (with_reducible exact Below.refl _ _))⟩

/-! ### laws_markText: function 61 -/
def laws_markText.l0 : Nat → Int → ByteArray → Option (ByteArray)
  | 0, _, _ => none
  | k + 1, x0, x3 => if x0 > 0 then ((some (([(wrap64 (48 + (Int.tmod x0 10))) % 256] : List Int) : List Int)).bind fun y156 => (if (strOfNums y156).size + x3.size ≤ 9223372036854775807 then (laws_markText.l0 k (wrap64 (Int.tdiv x0 10)) ((strOfNums y156) ++ x3)) else (none))) else (if 1 + x3.size ≤ 9223372036854775807 then (some ((⟨#[109]⟩ : ByteArray) ++ x3)) else (none))
def laws_markText.f (k : Nat) (a0 : Int) : Option (ByteArray) := if a0 ≤ 0 then (some (⟨#[109, 48]⟩ : ByteArray)) else (laws_markText.l0 k a0 (⟨#[]⟩ : ByteArray))
theorem laws_markText.mono_l : ∀ k, (∀ y0 y1, LeO (laws_markText.l0 k y0 y1) (laws_markText.l0 (k + 1) y0 y1))
  | 0 => fun _ _ r h => by simp [laws_markText.l0] at h
  | k + 1 => by
    have ih0 := laws_markText.mono_l k
    · intro y0 y1
      unfold laws_markText.l0
      repeat' first
      | (with_reducible exact ih0 _ _)
      | (with_reducible exact LeO.refl _)
      | (with_reducible exact LeO.none _)
      | (with_reducible refine LeO.ite ?_ ?_)
      | (with_reducible refine LeO.bind ?_ (fun _ => ?_))
      | exact ih0 _ _
      | exact LeO.none _
      | refine LeO.ite ?_ ?_
      | refine LeO.bind ?_ (fun _ => ?_)
theorem laws_markText.mono : ∀ a0 k, LeO (laws_markText.f k a0) (laws_markText.f (k + 1) a0) := by
  intro a0 k
  have ih0 := laws_markText.mono_l k
  unfold laws_markText.f
  repeat' first
      | (with_reducible exact ih0 _ _)
      | (with_reducible exact LeO.refl _)
      | (with_reducible exact LeO.none _)
      | (with_reducible refine LeO.ite ?_ ?_)
      | (with_reducible refine LeO.bind ?_ (fun _ => ?_))
      | exact ih0 _ _
      | exact LeO.none _
      | refine LeO.ite ?_ ?_
      | refine LeO.bind ?_ (fun _ => ?_)
set_option maxHeartbeats 8000000 in
set_option maxRecDepth 100000 in
theorem laws_markText.calls (k : Nat) (a0 : Int) (r : ByteArray) (w : World) (h : laws_markText.f k a0 = some r) :
    Calls Try.prog 61 #[.int .i64 a0] w fun e w' => e = .returned (.string r) ∧ Below w.heap.size w w' := by
  have HB := Aside0.mk (Below.refl w.heap.size w)
  have H : (if a0 ≤ 0 then (some (⟨#[109, 48]⟩ : ByteArray)) else (laws_markText.l0 k a0 (⟨#[]⟩ : ByteArray))) = some r := h
  clear h
  by_cases c2 : a0 ≤ 0
  · rw [if_pos c2] at H
    have c2b0 : decide (a0 ≤ 0) = true := decide_eq_true c2
    clear c2
    obtain rfl := Option.some.inj H
    go_enter Try.func61, Try.ntmps61
    go_wp2
    go_ret
    exact ⟨by first | rfl | (simp [errW_none, errW_some] <;> rfl) | (simp [*, errW_none, errW_some] <;> rfl), by repeat (first | (with_reducible first | exact HB.out | apply below_alloc | apply pw_below_drewN | apply below_drew1) | exact HB.out | (with_reducible exact Below.refl _ _))⟩
  · rw [if_neg c2] at H
    have c2b0 : decide (a0 ≤ 0) = false := decide_eq_false c2
    clear c2
    have H' := Aside0.mk H
    clear H
    go_enter Try.func61, Try.ntmps61
    go_wp2
    go_loopg [0, 3] k (fun kq v0 v3 w' => ∃ (x0_1 : Int) (x3_1 : ByteArray), v0 = .int .i64 x0_1 ∧ v3 = .string x3_1 ∧ Aside0 (laws_markText.l0 kq x0_1 x3_1 = some r) ∧ Aside0 (kq ≤ k) ∧ Aside0 (Below w.heap.size w w'))
    case atStart => exact ⟨(a0), ((⟨#[]⟩ : ByteArray)), (by first | rfl | (simp; done) | (simp [*]; done)), (by first | rfl | (simp; done) | (simp [*]; done)), H', ⟨Nat.le_refl _⟩, ⟨by repeat (first | (with_reducible first | exact HB.out | apply below_alloc | apply pw_below_drewN | apply below_drew1) | exact HB.out | (with_reducible exact Below.refl _ _))⟩⟩
    case round =>
      clear H'
      try clear c2
      try clear c2b0
      try clear p2
      obtain ⟨x0_1, x3_1, rfl, rfl, HA, HK1, HB⟩ := hrel
      cases gk with
      | zero => exact absurd HA.out (by simp [laws_markText.l0])
      | succ k1 =>
        have H := HA.out
        clear HA
        simp only [laws_markText.l0] at H
        by_cases c3 : x0_1 > 0
        · rw [if_pos c3] at H
          have c3b0 : decide (0 < x0_1) = true := decide_eq_true c3
          clear c3
          obtain ⟨y156, hy156⟩ : ∃ y_ : List Int, y_ = (([(wrap64 (48 + (Int.tmod x0_1 10))) % 256] : List Int)) := ⟨_, rfl⟩
          replace H : (if (strOfNums y156).size + x3_1.size ≤ 9223372036854775807 then (laws_markText.l0 k1 (wrap64 (Int.tdiv x0_1 10)) ((strOfNums y156) ++ x3_1)) else (none)) = some r := by first | (rw [hy156]; with_reducible exact H) | (have H2_ := (Option.bind_some _ _).symm.trans H; rw [hy156]; with_reducible exact H2_) | (have H2_ := (Option.bind_some _ _).symm.trans H; with_reducible exact H2_) | with_reducible exact H | (rw [hy156]; exact H) | exact H
          have Ny156 := Aside0.mk hy156
          clear hy156
          by_cases c4 : (strOfNums y156).size + x3_1.size ≤ 9223372036854775807
          · rw [if_pos c4] at H
            have c4b0 := eq_true c4
            have c4b1 : decide ((strOfNums y156).size + x3_1.size ≤ 9223372036854775807) = true := decide_eq_true c4
            try have c4b2 : (9223372036854775807 < (strOfNums y156).size + x3_1.size) = False := eq_false (Nat.not_lt.2 c4)
            have H' := Aside0.mk H
            clear H
            go_wp2_with (first | ((with_reducible refine gate_dst (N := 12) rfl ?_); refine Kd.R_lit (Kd.int .u8) _ 5 ?hg (N := 12) ?hd (xs := ([(wrap64 (48 + (Int.tmod x0_1 10))) % 256] : List Int)) (inner := [.int .u8 ((wrap64 (48 + (Int.tmod x0_1 10))) % 256)]) (ok := fun _ => True) (okp := fun _ => True) ?hr ?hp (fun _ hk => hk) trivial (Below.refl _ _) (Nat.le_refl _) (by simp) ?_; (case hd => rfl); (case hg => rfl); (case hr => first | (go_simp; done) | (go_simp; rfl)); (case hp => exact (Reps.one (show Kd.M (Kd.int .u8) _ _ _ ((wrap64 (48 + (Int.tmod x0_1 10))) % 256) [.int .u8 ((wrap64 (48 + (Int.tmod x0_1 10))) % 256)] from rfl) (Reps.none _ _))); intro v157 w5 ho6 hb hg_ hnew_; clear hg_ hnew_; (first | rw [← Ny156.out] at ho6 | (simp only [Int.reduceToNat] at ho6; rw [← Ny156.out] at ho6)); have n0_ := Aside0.mk (Kd.R_lower ho6 (below_size (by repeat (first | (with_reducible first | exact HB.out | apply below_alloc | apply pw_below_drewN | apply below_drew1) | exact HB.out | (with_reducible exact Below.refl _ _))))); have n1_ := Aside0.mk (below_step (by repeat (first | (with_reducible first | exact HB.out | apply below_alloc | apply pw_below_drewN | apply below_drew1) | exact HB.out | (with_reducible exact Below.refl _ _))) hb); clear HB; have HO158 := n0_; have HB := n1_; clear n0_ n1_; clear hb ho6; have hcv7 := own_string (P := Try.prog) Try.underlying45 Try.underlying5 Try.underlying9 (Kd.own_of_R HO158.out)))
            go_roundg k1
            case measure => have := HK1.out; omega
            case rel => exact ⟨(wrap64 (Int.tdiv x0_1 10)), ((strOfNums y156) ++ x3_1), (by first | rfl | (simp; done) | (simp [*]; done)), (by first | rfl | (simp; done) | (simp [*]; done)), H', ⟨by have := HK1.out; omega⟩, ⟨by repeat (first | (with_reducible first | exact HB.out | apply below_alloc | apply pw_below_drewN | apply below_drew1) | exact HB.out | (with_reducible exact Below.refl _ _))⟩⟩
          · rw [if_neg c4] at H
            exact absurd H (by simp)
        · rw [if_neg c3] at H
          have c3b0 : decide (0 < x0_1) = false := decide_eq_false c3
          clear c3
          by_cases c8 : 1 + x3_1.size ≤ 9223372036854775807
          · rw [if_pos c8] at H
            have c8b0 := eq_true c8
            have c8b1 : decide (1 + x3_1.size ≤ 9223372036854775807) = true := decide_eq_true c8
            try have c8b2 : (9223372036854775807 < 1 + x3_1.size) = False := eq_false (Nat.not_lt.2 c8)
            obtain rfl := Option.some.inj H
            go_wp2
            go_ret
            exact ⟨by first | rfl | (simp [errW_none, errW_some] <;> rfl) | (simp [*, errW_none, errW_some] <;> rfl), by repeat (first | (with_reducible first | exact HB.out | apply below_alloc | apply pw_below_drewN | apply below_drew1) | exact HB.out | (with_reducible exact Below.refl _ _))⟩
          · rw [if_neg c8] at H
            exact absurd H (by simp)

/-! ### laws_markBundleS: function 31 -/
def laws_markBundleS.l0 : Nat → List (S26) → Int → Int → Option (Int × (List (S26)))
  | 0, _, _, _ => none
  | k + 1, x0, x1, x5 => if x5 < (x0.length : Int) then (if 0 ≤ x5 then ((some (x0.set (x5 : Int).toNat (⟨x1, (rd_T26 x0 x5).f1, (rd_T26 x0 x5).f2, (rd_T26 x0 x5).f3, (rd_T26 x0 x5).f4, (rd_T26 x0 x5).f5, (rd_T26 x0 x5).f6, (rd_T26 x0 x5).f7, (rd_T26 x0 x5).f8, (rd_T26 x0 x5).f9⟩ : S26) : List (S26))).bind fun y159 => ((some (y159.set (x5 : Int).toNat (⟨(rd_T26 y159 x5).f0, wrap64 (x1 + 1), (rd_T26 y159 x5).f2, (rd_T26 y159 x5).f3, (rd_T26 y159 x5).f4, (rd_T26 y159 x5).f5, (rd_T26 y159 x5).f6, (rd_T26 y159 x5).f7, (rd_T26 y159 x5).f8, (rd_T26 y159 x5).f9⟩ : S26) : List (S26))).bind fun y160 => ((some (y160.set (x5 : Int).toNat (⟨(rd_T26 y160 x5).f0, (rd_T26 y160 x5).f1, ((Int.tmod (wrap64 ((wrap64 (x1 + 1)) + 1)) 3) == 0), (rd_T26 y160 x5).f3, (rd_T26 y160 x5).f4, (rd_T26 y160 x5).f5, (rd_T26 y160 x5).f6, (rd_T26 y160 x5).f7, (rd_T26 y160 x5).f8, (rd_T26 y160 x5).f9⟩ : S26) : List (S26))).bind fun y161 => ((some (y161.set (x5 : Int).toNat (⟨(rd_T26 y161 x5).f0, (rd_T26 y161 x5).f1, (rd_T26 y161 x5).f2, wrap64 ((wrap64 ((wrap64 (x1 + 1)) + 1)) + 1), (rd_T26 y161 x5).f4, (rd_T26 y161 x5).f5, (rd_T26 y161 x5).f6, (rd_T26 y161 x5).f7, (rd_T26 y161 x5).f8, (rd_T26 y161 x5).f9⟩ : S26) : List (S26))).bind fun y162 => ((some (y162.set (x5 : Int).toNat (⟨(rd_T26 y162 x5).f0, (rd_T26 y162 x5).f1, (rd_T26 y162 x5).f2, (rd_T26 y162 x5).f3, wrap64 ((wrap64 ((wrap64 ((wrap64 (x1 + 1)) + 1)) + 1)) + 1), (rd_T26 y162 x5).f5, (rd_T26 y162 x5).f6, (rd_T26 y162 x5).f7, (rd_T26 y162 x5).f8, (rd_T26 y162 x5).f9⟩ : S26) : List (S26))).bind fun y163 => ((some (y163.set (x5 : Int).toNat (⟨(rd_T26 y163 x5).f0, (rd_T26 y163 x5).f1, (rd_T26 y163 x5).f2, (rd_T26 y163 x5).f3, (rd_T26 y163 x5).f4, wrap64 ((wrap64 ((wrap64 ((wrap64 ((wrap64 (x1 + 1)) + 1)) + 1)) + 1)) + 1), (rd_T26 y163 x5).f6, (rd_T26 y163 x5).f7, (rd_T26 y163 x5).f8, (rd_T26 y163 x5).f9⟩ : S26) : List (S26))).bind fun y164 => ((some (y164.set (x5 : Int).toNat (⟨(rd_T26 y164 x5).f0, (rd_T26 y164 x5).f1, (rd_T26 y164 x5).f2, (rd_T26 y164 x5).f3, (rd_T26 y164 x5).f4, (rd_T26 y164 x5).f5, wrap64 ((wrap64 ((wrap64 ((wrap64 ((wrap64 ((wrap64 (x1 + 1)) + 1)) + 1)) + 1)) + 1)) + 1), (rd_T26 y164 x5).f7, (rd_T26 y164 x5).f8, (rd_T26 y164 x5).f9⟩ : S26) : List (S26))).bind fun y165 => ((some (y165.set (x5 : Int).toNat (⟨(rd_T26 y165 x5).f0, (rd_T26 y165 x5).f1, (rd_T26 y165 x5).f2, (rd_T26 y165 x5).f3, (rd_T26 y165 x5).f4, (rd_T26 y165 x5).f5, (rd_T26 y165 x5).f6, wrap64 ((wrap64 ((wrap64 ((wrap64 ((wrap64 ((wrap64 ((wrap64 (x1 + 1)) + 1)) + 1)) + 1)) + 1)) + 1)) + 1), (rd_T26 y165 x5).f8, (rd_T26 y165 x5).f9⟩ : S26) : List (S26))).bind fun y166 => ((some (y166.set (x5 : Int).toNat (⟨(rd_T26 y166 x5).f0, (rd_T26 y166 x5).f1, (rd_T26 y166 x5).f2, (rd_T26 y166 x5).f3, (rd_T26 y166 x5).f4, (rd_T26 y166 x5).f5, (rd_T26 y166 x5).f6, (rd_T26 y166 x5).f7, wrap64 ((wrap64 ((wrap64 ((wrap64 ((wrap64 ((wrap64 ((wrap64 ((wrap64 (x1 + 1)) + 1)) + 1)) + 1)) + 1)) + 1)) + 1)) + 1), (rd_T26 y166 x5).f9⟩ : S26) : List (S26))).bind fun y167 => ((laws_markText.f k (wrap64 ((wrap64 ((wrap64 ((wrap64 ((wrap64 ((wrap64 ((wrap64 ((wrap64 ((wrap64 (x1 + 1)) + 1)) + 1)) + 1)) + 1)) + 1)) + 1)) + 1)) + 1))).bind fun t168 => (laws_markBundleS.l0 k (y167.set (x5 : Int).toNat (⟨(rd_T26 y167 x5).f0, (rd_T26 y167 x5).f1, (rd_T26 y167 x5).f2, (rd_T26 y167 x5).f3, (rd_T26 y167 x5).f4, (rd_T26 y167 x5).f5, (rd_T26 y167 x5).f6, (rd_T26 y167 x5).f7, (rd_T26 y167 x5).f8, t168⟩ : S26)) (wrap64 ((wrap64 ((wrap64 ((wrap64 ((wrap64 ((wrap64 ((wrap64 ((wrap64 ((wrap64 ((wrap64 (x1 + 1)) + 1)) + 1)) + 1)) + 1)) + 1)) + 1)) + 1)) + 1)) + 1)) (wrap64 (x5 + 1))))))))))))) else (none)) else (some (x1, x0))
def laws_markBundleS.f (k : Nat) (l0 : List (S26)) (a1 : Int) : Option (Int × (List (S26))) := laws_markBundleS.l0 k l0 a1 0
theorem laws_markBundleS.mono_l : ∀ k, (∀ y0 y1 y2, LeO (laws_markBundleS.l0 k y0 y1 y2) (laws_markBundleS.l0 (k + 1) y0 y1 y2))
  | 0 => fun _ _ _ r h => by simp [laws_markBundleS.l0] at h
  | k + 1 => by
    have ih0 := laws_markBundleS.mono_l k
    · intro y0 y1 y2
      unfold laws_markBundleS.l0
      repeat' first
      | (with_reducible exact ih0 _ _ _)
      | (with_reducible exact laws_markText.mono _ _)
      | (with_reducible exact LeO.refl _)
      | (with_reducible exact LeO.none _)
      | (with_reducible refine LeO.ite ?_ ?_)
      | (with_reducible refine LeO.bind ?_ (fun _ => ?_))
      | exact ih0 _ _ _
      | exact laws_markText.mono _ _
      | exact LeO.none _
      | refine LeO.ite ?_ ?_
      | refine LeO.bind ?_ (fun _ => ?_)
theorem laws_markBundleS.mono : ∀ a0 a1 k, LeO (laws_markBundleS.f k a0 a1) (laws_markBundleS.f (k + 1) a0 a1) := by
  intro a0 a1 k
  have ih0 := laws_markBundleS.mono_l k
  unfold laws_markBundleS.f
  repeat' first
      | (with_reducible exact ih0 _ _ _)
      | (with_reducible exact laws_markText.mono _ _)
      | (with_reducible exact LeO.refl _)
      | (with_reducible exact LeO.none _)
      | (with_reducible refine LeO.ite ?_ ?_)
      | (with_reducible refine LeO.bind ?_ (fun _ => ?_))
      | exact ih0 _ _ _
      | exact laws_markText.mono _ _
      | exact LeO.none _
      | refine LeO.ite ?_ ?_
      | refine LeO.bind ?_ (fun _ => ?_)
set_option maxHeartbeats 8000000 in
set_option maxRecDepth 100000 in
theorem laws_markBundleS.calls (k : Nat) (P0_ : Nat → Prop) (u9000_ : Value) (l0 : List (S26)) (a1 : Int) (r1 : Int) (r2 : List (S26)) (w0 w : World) (hB : Below w0.heap.size w0 w) (ho0 : Kd.R k26 26 w w0.heap.size P0_ u9000_ l0) (h : laws_markBundleS.f k l0 a1 = some (r1, r2)) :
    Calls Try.prog 31 #[u9000_, .int .i64 a1] w fun e w' => e = .returned (.int .i64 r1) ∧ Kd.R k26 26 w' w0.heap.size (fun k_ => (P0_ k_ ∨ w.heap.size ≤ k_)) u9000_ r2 ∧ Below w0.heap.size w0 w' ∧ Kept w w' (fun k_ => P0_ k_) := by
  have HO0 := Aside0.mk (show Kd.R k26 26 w w0.heap.size (fun k_ => (P0_ k_ ∨ w.heap.size ≤ k_)) u9000_ l0 from Kd.R_mono ho0 (fun k_ hk => (.inl hk)))
  have HK := Aside0.mk (Kept.refl w (fun k_ => P0_ k_))
  have HW0 := Aside0.mk hB.size
  have HB := Aside0.mk hB
  clear hB
  have H : (laws_markBundleS.l0 k l0 a1 0) = some (r1, r2) := h
  clear h
  have H' := Aside0.mk H
  clear H
  go_enter Try.func31, Try.ntmps31
  go_wp2
  go_loopg [1, 5] k (fun kq v1 v5 w' => ∃ (x0_1 : List (S26)) (x1_1 : Int) (x5_1 : Int), v1 = .int .i64 x1_1 ∧ v5 = .int .i64 x5_1 ∧ Aside0 (laws_markBundleS.l0 kq x0_1 x1_1 x5_1 = some (r1, r2)) ∧ Aside0 (kq ≤ k) ∧ Aside0 (Kd.R k26 26 w' w0.heap.size (fun k_ => (P0_ k_ ∨ w.heap.size ≤ k_)) u9000_ x0_1) ∧ Aside0 (Kept w w' (fun k_ => P0_ k_)) ∧ Aside0 (Below w0.heap.size w0 w'))
  case atStart => exact ⟨(l0), (a1), (0), (by first | rfl | (simp; done) | (simp [*]; done)), (by first | rfl | (simp; done) | (simp [*]; done)), H', ⟨Nat.le_refl _⟩, ⟨by (with_reducible repeat (first | apply Kd.R_alloc | apply Kd.R_drewN | apply Kd.R_drew)); exact HO0.out⟩, ⟨by repeat (first | (with_reducible first | exact HK.out | apply Kept.alloc | apply Kept.drewN | apply Kept.drew) | exact HK.out)⟩, ⟨by repeat (first | (with_reducible first | exact HB.out | apply below_alloc | apply pw_below_drewN | apply below_drew1) | exact HB.out | (with_reducible exact Below.refl _ _))⟩⟩
  case round =>
    clear H'
    try clear p2
    obtain ⟨x0_1, x1_1, x5_1, rfl, rfl, HA, HK1, HO_0, HK, HB⟩ := hrel
    cases gk with
    | zero => exact absurd HA.out (by simp [laws_markBundleS.l0])
    | succ k1 =>
      have H := HA.out
      clear HA
      simp only [laws_markBundleS.l0] at H
      by_cases c3 : x5_1 < (x0_1.length : Int)
      · rw [if_pos c3] at H
        have c3b0 : decide (x5_1 < (x0_1.length : Int)) = true := decide_eq_true c3
        clear c3
        by_cases c4 : 0 ≤ x5_1
        · rw [if_pos c4] at H
          have c4b0 : decide (0 ≤ x5_1) = true := decide_eq_true c4
          clear c4
          obtain ⟨y159, hy159⟩ : ∃ y_ : List (S26), y_ = (x0_1.set (x5_1 : Int).toNat (⟨x1_1, (rd_T26 x0_1 x5_1).f1, (rd_T26 x0_1 x5_1).f2, (rd_T26 x0_1 x5_1).f3, (rd_T26 x0_1 x5_1).f4, (rd_T26 x0_1 x5_1).f5, (rd_T26 x0_1 x5_1).f6, (rd_T26 x0_1 x5_1).f7, (rd_T26 x0_1 x5_1).f8, (rd_T26 x0_1 x5_1).f9⟩ : S26)) := ⟨_, rfl⟩
          replace H : ((some (y159.set (x5_1 : Int).toNat (⟨(rd_T26 y159 x5_1).f0, wrap64 (x1_1 + 1), (rd_T26 y159 x5_1).f2, (rd_T26 y159 x5_1).f3, (rd_T26 y159 x5_1).f4, (rd_T26 y159 x5_1).f5, (rd_T26 y159 x5_1).f6, (rd_T26 y159 x5_1).f7, (rd_T26 y159 x5_1).f8, (rd_T26 y159 x5_1).f9⟩ : S26) : List (S26))).bind fun y160 => ((some (y160.set (x5_1 : Int).toNat (⟨(rd_T26 y160 x5_1).f0, (rd_T26 y160 x5_1).f1, ((Int.tmod (wrap64 ((wrap64 (x1_1 + 1)) + 1)) 3) == 0), (rd_T26 y160 x5_1).f3, (rd_T26 y160 x5_1).f4, (rd_T26 y160 x5_1).f5, (rd_T26 y160 x5_1).f6, (rd_T26 y160 x5_1).f7, (rd_T26 y160 x5_1).f8, (rd_T26 y160 x5_1).f9⟩ : S26) : List (S26))).bind fun y161 => ((some (y161.set (x5_1 : Int).toNat (⟨(rd_T26 y161 x5_1).f0, (rd_T26 y161 x5_1).f1, (rd_T26 y161 x5_1).f2, wrap64 ((wrap64 ((wrap64 (x1_1 + 1)) + 1)) + 1), (rd_T26 y161 x5_1).f4, (rd_T26 y161 x5_1).f5, (rd_T26 y161 x5_1).f6, (rd_T26 y161 x5_1).f7, (rd_T26 y161 x5_1).f8, (rd_T26 y161 x5_1).f9⟩ : S26) : List (S26))).bind fun y162 => ((some (y162.set (x5_1 : Int).toNat (⟨(rd_T26 y162 x5_1).f0, (rd_T26 y162 x5_1).f1, (rd_T26 y162 x5_1).f2, (rd_T26 y162 x5_1).f3, wrap64 ((wrap64 ((wrap64 ((wrap64 (x1_1 + 1)) + 1)) + 1)) + 1), (rd_T26 y162 x5_1).f5, (rd_T26 y162 x5_1).f6, (rd_T26 y162 x5_1).f7, (rd_T26 y162 x5_1).f8, (rd_T26 y162 x5_1).f9⟩ : S26) : List (S26))).bind fun y163 => ((some (y163.set (x5_1 : Int).toNat (⟨(rd_T26 y163 x5_1).f0, (rd_T26 y163 x5_1).f1, (rd_T26 y163 x5_1).f2, (rd_T26 y163 x5_1).f3, (rd_T26 y163 x5_1).f4, wrap64 ((wrap64 ((wrap64 ((wrap64 ((wrap64 (x1_1 + 1)) + 1)) + 1)) + 1)) + 1), (rd_T26 y163 x5_1).f6, (rd_T26 y163 x5_1).f7, (rd_T26 y163 x5_1).f8, (rd_T26 y163 x5_1).f9⟩ : S26) : List (S26))).bind fun y164 => ((some (y164.set (x5_1 : Int).toNat (⟨(rd_T26 y164 x5_1).f0, (rd_T26 y164 x5_1).f1, (rd_T26 y164 x5_1).f2, (rd_T26 y164 x5_1).f3, (rd_T26 y164 x5_1).f4, (rd_T26 y164 x5_1).f5, wrap64 ((wrap64 ((wrap64 ((wrap64 ((wrap64 ((wrap64 (x1_1 + 1)) + 1)) + 1)) + 1)) + 1)) + 1), (rd_T26 y164 x5_1).f7, (rd_T26 y164 x5_1).f8, (rd_T26 y164 x5_1).f9⟩ : S26) : List (S26))).bind fun y165 => ((some (y165.set (x5_1 : Int).toNat (⟨(rd_T26 y165 x5_1).f0, (rd_T26 y165 x5_1).f1, (rd_T26 y165 x5_1).f2, (rd_T26 y165 x5_1).f3, (rd_T26 y165 x5_1).f4, (rd_T26 y165 x5_1).f5, (rd_T26 y165 x5_1).f6, wrap64 ((wrap64 ((wrap64 ((wrap64 ((wrap64 ((wrap64 ((wrap64 (x1_1 + 1)) + 1)) + 1)) + 1)) + 1)) + 1)) + 1), (rd_T26 y165 x5_1).f8, (rd_T26 y165 x5_1).f9⟩ : S26) : List (S26))).bind fun y166 => ((some (y166.set (x5_1 : Int).toNat (⟨(rd_T26 y166 x5_1).f0, (rd_T26 y166 x5_1).f1, (rd_T26 y166 x5_1).f2, (rd_T26 y166 x5_1).f3, (rd_T26 y166 x5_1).f4, (rd_T26 y166 x5_1).f5, (rd_T26 y166 x5_1).f6, (rd_T26 y166 x5_1).f7, wrap64 ((wrap64 ((wrap64 ((wrap64 ((wrap64 ((wrap64 ((wrap64 ((wrap64 (x1_1 + 1)) + 1)) + 1)) + 1)) + 1)) + 1)) + 1)) + 1), (rd_T26 y166 x5_1).f9⟩ : S26) : List (S26))).bind fun y167 => ((laws_markText.f k1 (wrap64 ((wrap64 ((wrap64 ((wrap64 ((wrap64 ((wrap64 ((wrap64 ((wrap64 ((wrap64 (x1_1 + 1)) + 1)) + 1)) + 1)) + 1)) + 1)) + 1)) + 1)) + 1))).bind fun t168 => (laws_markBundleS.l0 k1 (y167.set (x5_1 : Int).toNat (⟨(rd_T26 y167 x5_1).f0, (rd_T26 y167 x5_1).f1, (rd_T26 y167 x5_1).f2, (rd_T26 y167 x5_1).f3, (rd_T26 y167 x5_1).f4, (rd_T26 y167 x5_1).f5, (rd_T26 y167 x5_1).f6, (rd_T26 y167 x5_1).f7, (rd_T26 y167 x5_1).f8, t168⟩ : S26)) (wrap64 ((wrap64 ((wrap64 ((wrap64 ((wrap64 ((wrap64 ((wrap64 ((wrap64 ((wrap64 ((wrap64 (x1_1 + 1)) + 1)) + 1)) + 1)) + 1)) + 1)) + 1)) + 1)) + 1)) + 1)) (wrap64 (x5_1 + 1)))))))))))) = some (r1, r2) := by first | (rw [hy159]; with_reducible exact H) | (have H2_ := (Option.bind_some _ _).symm.trans H; rw [hy159]; with_reducible exact H2_) | (have H2_ := (Option.bind_some _ _).symm.trans H; with_reducible exact H2_) | with_reducible exact H | (rw [hy159]; exact H) | exact H
          have Ny159 := Aside0.mk hy159
          clear hy159
          obtain ⟨y160, hy160⟩ : ∃ y_ : List (S26), y_ = (y159.set (x5_1 : Int).toNat (⟨(rd_T26 y159 x5_1).f0, wrap64 (x1_1 + 1), (rd_T26 y159 x5_1).f2, (rd_T26 y159 x5_1).f3, (rd_T26 y159 x5_1).f4, (rd_T26 y159 x5_1).f5, (rd_T26 y159 x5_1).f6, (rd_T26 y159 x5_1).f7, (rd_T26 y159 x5_1).f8, (rd_T26 y159 x5_1).f9⟩ : S26)) := ⟨_, rfl⟩
          replace H : ((some (y160.set (x5_1 : Int).toNat (⟨(rd_T26 y160 x5_1).f0, (rd_T26 y160 x5_1).f1, ((Int.tmod (wrap64 ((wrap64 (x1_1 + 1)) + 1)) 3) == 0), (rd_T26 y160 x5_1).f3, (rd_T26 y160 x5_1).f4, (rd_T26 y160 x5_1).f5, (rd_T26 y160 x5_1).f6, (rd_T26 y160 x5_1).f7, (rd_T26 y160 x5_1).f8, (rd_T26 y160 x5_1).f9⟩ : S26) : List (S26))).bind fun y161 => ((some (y161.set (x5_1 : Int).toNat (⟨(rd_T26 y161 x5_1).f0, (rd_T26 y161 x5_1).f1, (rd_T26 y161 x5_1).f2, wrap64 ((wrap64 ((wrap64 (x1_1 + 1)) + 1)) + 1), (rd_T26 y161 x5_1).f4, (rd_T26 y161 x5_1).f5, (rd_T26 y161 x5_1).f6, (rd_T26 y161 x5_1).f7, (rd_T26 y161 x5_1).f8, (rd_T26 y161 x5_1).f9⟩ : S26) : List (S26))).bind fun y162 => ((some (y162.set (x5_1 : Int).toNat (⟨(rd_T26 y162 x5_1).f0, (rd_T26 y162 x5_1).f1, (rd_T26 y162 x5_1).f2, (rd_T26 y162 x5_1).f3, wrap64 ((wrap64 ((wrap64 ((wrap64 (x1_1 + 1)) + 1)) + 1)) + 1), (rd_T26 y162 x5_1).f5, (rd_T26 y162 x5_1).f6, (rd_T26 y162 x5_1).f7, (rd_T26 y162 x5_1).f8, (rd_T26 y162 x5_1).f9⟩ : S26) : List (S26))).bind fun y163 => ((some (y163.set (x5_1 : Int).toNat (⟨(rd_T26 y163 x5_1).f0, (rd_T26 y163 x5_1).f1, (rd_T26 y163 x5_1).f2, (rd_T26 y163 x5_1).f3, (rd_T26 y163 x5_1).f4, wrap64 ((wrap64 ((wrap64 ((wrap64 ((wrap64 (x1_1 + 1)) + 1)) + 1)) + 1)) + 1), (rd_T26 y163 x5_1).f6, (rd_T26 y163 x5_1).f7, (rd_T26 y163 x5_1).f8, (rd_T26 y163 x5_1).f9⟩ : S26) : List (S26))).bind fun y164 => ((some (y164.set (x5_1 : Int).toNat (⟨(rd_T26 y164 x5_1).f0, (rd_T26 y164 x5_1).f1, (rd_T26 y164 x5_1).f2, (rd_T26 y164 x5_1).f3, (rd_T26 y164 x5_1).f4, (rd_T26 y164 x5_1).f5, wrap64 ((wrap64 ((wrap64 ((wrap64 ((wrap64 ((wrap64 (x1_1 + 1)) + 1)) + 1)) + 1)) + 1)) + 1), (rd_T26 y164 x5_1).f7, (rd_T26 y164 x5_1).f8, (rd_T26 y164 x5_1).f9⟩ : S26) : List (S26))).bind fun y165 => ((some (y165.set (x5_1 : Int).toNat (⟨(rd_T26 y165 x5_1).f0, (rd_T26 y165 x5_1).f1, (rd_T26 y165 x5_1).f2, (rd_T26 y165 x5_1).f3, (rd_T26 y165 x5_1).f4, (rd_T26 y165 x5_1).f5, (rd_T26 y165 x5_1).f6, wrap64 ((wrap64 ((wrap64 ((wrap64 ((wrap64 ((wrap64 ((wrap64 (x1_1 + 1)) + 1)) + 1)) + 1)) + 1)) + 1)) + 1), (rd_T26 y165 x5_1).f8, (rd_T26 y165 x5_1).f9⟩ : S26) : List (S26))).bind fun y166 => ((some (y166.set (x5_1 : Int).toNat (⟨(rd_T26 y166 x5_1).f0, (rd_T26 y166 x5_1).f1, (rd_T26 y166 x5_1).f2, (rd_T26 y166 x5_1).f3, (rd_T26 y166 x5_1).f4, (rd_T26 y166 x5_1).f5, (rd_T26 y166 x5_1).f6, (rd_T26 y166 x5_1).f7, wrap64 ((wrap64 ((wrap64 ((wrap64 ((wrap64 ((wrap64 ((wrap64 ((wrap64 (x1_1 + 1)) + 1)) + 1)) + 1)) + 1)) + 1)) + 1)) + 1), (rd_T26 y166 x5_1).f9⟩ : S26) : List (S26))).bind fun y167 => ((laws_markText.f k1 (wrap64 ((wrap64 ((wrap64 ((wrap64 ((wrap64 ((wrap64 ((wrap64 ((wrap64 ((wrap64 (x1_1 + 1)) + 1)) + 1)) + 1)) + 1)) + 1)) + 1)) + 1)) + 1))).bind fun t168 => (laws_markBundleS.l0 k1 (y167.set (x5_1 : Int).toNat (⟨(rd_T26 y167 x5_1).f0, (rd_T26 y167 x5_1).f1, (rd_T26 y167 x5_1).f2, (rd_T26 y167 x5_1).f3, (rd_T26 y167 x5_1).f4, (rd_T26 y167 x5_1).f5, (rd_T26 y167 x5_1).f6, (rd_T26 y167 x5_1).f7, (rd_T26 y167 x5_1).f8, t168⟩ : S26)) (wrap64 ((wrap64 ((wrap64 ((wrap64 ((wrap64 ((wrap64 ((wrap64 ((wrap64 ((wrap64 ((wrap64 (x1_1 + 1)) + 1)) + 1)) + 1)) + 1)) + 1)) + 1)) + 1)) + 1)) + 1)) (wrap64 (x5_1 + 1))))))))))) = some (r1, r2) := by first | (rw [hy160]; with_reducible exact H) | (have H2_ := (Option.bind_some _ _).symm.trans H; rw [hy160]; with_reducible exact H2_) | (have H2_ := (Option.bind_some _ _).symm.trans H; with_reducible exact H2_) | with_reducible exact H | (rw [hy160]; exact H) | exact H
          have Ny160 := Aside0.mk hy160
          clear hy160
          obtain ⟨y161, hy161⟩ : ∃ y_ : List (S26), y_ = (y160.set (x5_1 : Int).toNat (⟨(rd_T26 y160 x5_1).f0, (rd_T26 y160 x5_1).f1, ((Int.tmod (wrap64 ((wrap64 (x1_1 + 1)) + 1)) 3) == 0), (rd_T26 y160 x5_1).f3, (rd_T26 y160 x5_1).f4, (rd_T26 y160 x5_1).f5, (rd_T26 y160 x5_1).f6, (rd_T26 y160 x5_1).f7, (rd_T26 y160 x5_1).f8, (rd_T26 y160 x5_1).f9⟩ : S26)) := ⟨_, rfl⟩
          replace H : ((some (y161.set (x5_1 : Int).toNat (⟨(rd_T26 y161 x5_1).f0, (rd_T26 y161 x5_1).f1, (rd_T26 y161 x5_1).f2, wrap64 ((wrap64 ((wrap64 (x1_1 + 1)) + 1)) + 1), (rd_T26 y161 x5_1).f4, (rd_T26 y161 x5_1).f5, (rd_T26 y161 x5_1).f6, (rd_T26 y161 x5_1).f7, (rd_T26 y161 x5_1).f8, (rd_T26 y161 x5_1).f9⟩ : S26) : List (S26))).bind fun y162 => ((some (y162.set (x5_1 : Int).toNat (⟨(rd_T26 y162 x5_1).f0, (rd_T26 y162 x5_1).f1, (rd_T26 y162 x5_1).f2, (rd_T26 y162 x5_1).f3, wrap64 ((wrap64 ((wrap64 ((wrap64 (x1_1 + 1)) + 1)) + 1)) + 1), (rd_T26 y162 x5_1).f5, (rd_T26 y162 x5_1).f6, (rd_T26 y162 x5_1).f7, (rd_T26 y162 x5_1).f8, (rd_T26 y162 x5_1).f9⟩ : S26) : List (S26))).bind fun y163 => ((some (y163.set (x5_1 : Int).toNat (⟨(rd_T26 y163 x5_1).f0, (rd_T26 y163 x5_1).f1, (rd_T26 y163 x5_1).f2, (rd_T26 y163 x5_1).f3, (rd_T26 y163 x5_1).f4, wrap64 ((wrap64 ((wrap64 ((wrap64 ((wrap64 (x1_1 + 1)) + 1)) + 1)) + 1)) + 1), (rd_T26 y163 x5_1).f6, (rd_T26 y163 x5_1).f7, (rd_T26 y163 x5_1).f8, (rd_T26 y163 x5_1).f9⟩ : S26) : List (S26))).bind fun y164 => ((some (y164.set (x5_1 : Int).toNat (⟨(rd_T26 y164 x5_1).f0, (rd_T26 y164 x5_1).f1, (rd_T26 y164 x5_1).f2, (rd_T26 y164 x5_1).f3, (rd_T26 y164 x5_1).f4, (rd_T26 y164 x5_1).f5, wrap64 ((wrap64 ((wrap64 ((wrap64 ((wrap64 ((wrap64 (x1_1 + 1)) + 1)) + 1)) + 1)) + 1)) + 1), (rd_T26 y164 x5_1).f7, (rd_T26 y164 x5_1).f8, (rd_T26 y164 x5_1).f9⟩ : S26) : List (S26))).bind fun y165 => ((some (y165.set (x5_1 : Int).toNat (⟨(rd_T26 y165 x5_1).f0, (rd_T26 y165 x5_1).f1, (rd_T26 y165 x5_1).f2, (rd_T26 y165 x5_1).f3, (rd_T26 y165 x5_1).f4, (rd_T26 y165 x5_1).f5, (rd_T26 y165 x5_1).f6, wrap64 ((wrap64 ((wrap64 ((wrap64 ((wrap64 ((wrap64 ((wrap64 (x1_1 + 1)) + 1)) + 1)) + 1)) + 1)) + 1)) + 1), (rd_T26 y165 x5_1).f8, (rd_T26 y165 x5_1).f9⟩ : S26) : List (S26))).bind fun y166 => ((some (y166.set (x5_1 : Int).toNat (⟨(rd_T26 y166 x5_1).f0, (rd_T26 y166 x5_1).f1, (rd_T26 y166 x5_1).f2, (rd_T26 y166 x5_1).f3, (rd_T26 y166 x5_1).f4, (rd_T26 y166 x5_1).f5, (rd_T26 y166 x5_1).f6, (rd_T26 y166 x5_1).f7, wrap64 ((wrap64 ((wrap64 ((wrap64 ((wrap64 ((wrap64 ((wrap64 ((wrap64 (x1_1 + 1)) + 1)) + 1)) + 1)) + 1)) + 1)) + 1)) + 1), (rd_T26 y166 x5_1).f9⟩ : S26) : List (S26))).bind fun y167 => ((laws_markText.f k1 (wrap64 ((wrap64 ((wrap64 ((wrap64 ((wrap64 ((wrap64 ((wrap64 ((wrap64 ((wrap64 (x1_1 + 1)) + 1)) + 1)) + 1)) + 1)) + 1)) + 1)) + 1)) + 1))).bind fun t168 => (laws_markBundleS.l0 k1 (y167.set (x5_1 : Int).toNat (⟨(rd_T26 y167 x5_1).f0, (rd_T26 y167 x5_1).f1, (rd_T26 y167 x5_1).f2, (rd_T26 y167 x5_1).f3, (rd_T26 y167 x5_1).f4, (rd_T26 y167 x5_1).f5, (rd_T26 y167 x5_1).f6, (rd_T26 y167 x5_1).f7, (rd_T26 y167 x5_1).f8, t168⟩ : S26)) (wrap64 ((wrap64 ((wrap64 ((wrap64 ((wrap64 ((wrap64 ((wrap64 ((wrap64 ((wrap64 ((wrap64 (x1_1 + 1)) + 1)) + 1)) + 1)) + 1)) + 1)) + 1)) + 1)) + 1)) + 1)) (wrap64 (x5_1 + 1)))))))))) = some (r1, r2) := by first | (rw [hy161]; with_reducible exact H) | (have H2_ := (Option.bind_some _ _).symm.trans H; rw [hy161]; with_reducible exact H2_) | (have H2_ := (Option.bind_some _ _).symm.trans H; with_reducible exact H2_) | with_reducible exact H | (rw [hy161]; exact H) | exact H
          have Ny161 := Aside0.mk hy161
          clear hy161
          obtain ⟨y162, hy162⟩ : ∃ y_ : List (S26), y_ = (y161.set (x5_1 : Int).toNat (⟨(rd_T26 y161 x5_1).f0, (rd_T26 y161 x5_1).f1, (rd_T26 y161 x5_1).f2, wrap64 ((wrap64 ((wrap64 (x1_1 + 1)) + 1)) + 1), (rd_T26 y161 x5_1).f4, (rd_T26 y161 x5_1).f5, (rd_T26 y161 x5_1).f6, (rd_T26 y161 x5_1).f7, (rd_T26 y161 x5_1).f8, (rd_T26 y161 x5_1).f9⟩ : S26)) := ⟨_, rfl⟩
          replace H : ((some (y162.set (x5_1 : Int).toNat (⟨(rd_T26 y162 x5_1).f0, (rd_T26 y162 x5_1).f1, (rd_T26 y162 x5_1).f2, (rd_T26 y162 x5_1).f3, wrap64 ((wrap64 ((wrap64 ((wrap64 (x1_1 + 1)) + 1)) + 1)) + 1), (rd_T26 y162 x5_1).f5, (rd_T26 y162 x5_1).f6, (rd_T26 y162 x5_1).f7, (rd_T26 y162 x5_1).f8, (rd_T26 y162 x5_1).f9⟩ : S26) : List (S26))).bind fun y163 => ((some (y163.set (x5_1 : Int).toNat (⟨(rd_T26 y163 x5_1).f0, (rd_T26 y163 x5_1).f1, (rd_T26 y163 x5_1).f2, (rd_T26 y163 x5_1).f3, (rd_T26 y163 x5_1).f4, wrap64 ((wrap64 ((wrap64 ((wrap64 ((wrap64 (x1_1 + 1)) + 1)) + 1)) + 1)) + 1), (rd_T26 y163 x5_1).f6, (rd_T26 y163 x5_1).f7, (rd_T26 y163 x5_1).f8, (rd_T26 y163 x5_1).f9⟩ : S26) : List (S26))).bind fun y164 => ((some (y164.set (x5_1 : Int).toNat (⟨(rd_T26 y164 x5_1).f0, (rd_T26 y164 x5_1).f1, (rd_T26 y164 x5_1).f2, (rd_T26 y164 x5_1).f3, (rd_T26 y164 x5_1).f4, (rd_T26 y164 x5_1).f5, wrap64 ((wrap64 ((wrap64 ((wrap64 ((wrap64 ((wrap64 (x1_1 + 1)) + 1)) + 1)) + 1)) + 1)) + 1), (rd_T26 y164 x5_1).f7, (rd_T26 y164 x5_1).f8, (rd_T26 y164 x5_1).f9⟩ : S26) : List (S26))).bind fun y165 => ((some (y165.set (x5_1 : Int).toNat (⟨(rd_T26 y165 x5_1).f0, (rd_T26 y165 x5_1).f1, (rd_T26 y165 x5_1).f2, (rd_T26 y165 x5_1).f3, (rd_T26 y165 x5_1).f4, (rd_T26 y165 x5_1).f5, (rd_T26 y165 x5_1).f6, wrap64 ((wrap64 ((wrap64 ((wrap64 ((wrap64 ((wrap64 ((wrap64 (x1_1 + 1)) + 1)) + 1)) + 1)) + 1)) + 1)) + 1), (rd_T26 y165 x5_1).f8, (rd_T26 y165 x5_1).f9⟩ : S26) : List (S26))).bind fun y166 => ((some (y166.set (x5_1 : Int).toNat (⟨(rd_T26 y166 x5_1).f0, (rd_T26 y166 x5_1).f1, (rd_T26 y166 x5_1).f2, (rd_T26 y166 x5_1).f3, (rd_T26 y166 x5_1).f4, (rd_T26 y166 x5_1).f5, (rd_T26 y166 x5_1).f6, (rd_T26 y166 x5_1).f7, wrap64 ((wrap64 ((wrap64 ((wrap64 ((wrap64 ((wrap64 ((wrap64 ((wrap64 (x1_1 + 1)) + 1)) + 1)) + 1)) + 1)) + 1)) + 1)) + 1), (rd_T26 y166 x5_1).f9⟩ : S26) : List (S26))).bind fun y167 => ((laws_markText.f k1 (wrap64 ((wrap64 ((wrap64 ((wrap64 ((wrap64 ((wrap64 ((wrap64 ((wrap64 ((wrap64 (x1_1 + 1)) + 1)) + 1)) + 1)) + 1)) + 1)) + 1)) + 1)) + 1))).bind fun t168 => (laws_markBundleS.l0 k1 (y167.set (x5_1 : Int).toNat (⟨(rd_T26 y167 x5_1).f0, (rd_T26 y167 x5_1).f1, (rd_T26 y167 x5_1).f2, (rd_T26 y167 x5_1).f3, (rd_T26 y167 x5_1).f4, (rd_T26 y167 x5_1).f5, (rd_T26 y167 x5_1).f6, (rd_T26 y167 x5_1).f7, (rd_T26 y167 x5_1).f8, t168⟩ : S26)) (wrap64 ((wrap64 ((wrap64 ((wrap64 ((wrap64 ((wrap64 ((wrap64 ((wrap64 ((wrap64 ((wrap64 (x1_1 + 1)) + 1)) + 1)) + 1)) + 1)) + 1)) + 1)) + 1)) + 1)) + 1)) (wrap64 (x5_1 + 1))))))))) = some (r1, r2) := by first | (rw [hy162]; with_reducible exact H) | (have H2_ := (Option.bind_some _ _).symm.trans H; rw [hy162]; with_reducible exact H2_) | (have H2_ := (Option.bind_some _ _).symm.trans H; with_reducible exact H2_) | with_reducible exact H | (rw [hy162]; exact H) | exact H
          have Ny162 := Aside0.mk hy162
          clear hy162
          obtain ⟨y163, hy163⟩ : ∃ y_ : List (S26), y_ = (y162.set (x5_1 : Int).toNat (⟨(rd_T26 y162 x5_1).f0, (rd_T26 y162 x5_1).f1, (rd_T26 y162 x5_1).f2, (rd_T26 y162 x5_1).f3, wrap64 ((wrap64 ((wrap64 ((wrap64 (x1_1 + 1)) + 1)) + 1)) + 1), (rd_T26 y162 x5_1).f5, (rd_T26 y162 x5_1).f6, (rd_T26 y162 x5_1).f7, (rd_T26 y162 x5_1).f8, (rd_T26 y162 x5_1).f9⟩ : S26)) := ⟨_, rfl⟩
          replace H : ((some (y163.set (x5_1 : Int).toNat (⟨(rd_T26 y163 x5_1).f0, (rd_T26 y163 x5_1).f1, (rd_T26 y163 x5_1).f2, (rd_T26 y163 x5_1).f3, (rd_T26 y163 x5_1).f4, wrap64 ((wrap64 ((wrap64 ((wrap64 ((wrap64 (x1_1 + 1)) + 1)) + 1)) + 1)) + 1), (rd_T26 y163 x5_1).f6, (rd_T26 y163 x5_1).f7, (rd_T26 y163 x5_1).f8, (rd_T26 y163 x5_1).f9⟩ : S26) : List (S26))).bind fun y164 => ((some (y164.set (x5_1 : Int).toNat (⟨(rd_T26 y164 x5_1).f0, (rd_T26 y164 x5_1).f1, (rd_T26 y164 x5_1).f2, (rd_T26 y164 x5_1).f3, (rd_T26 y164 x5_1).f4, (rd_T26 y164 x5_1).f5, wrap64 ((wrap64 ((wrap64 ((wrap64 ((wrap64 ((wrap64 (x1_1 + 1)) + 1)) + 1)) + 1)) + 1)) + 1), (rd_T26 y164 x5_1).f7, (rd_T26 y164 x5_1).f8, (rd_T26 y164 x5_1).f9⟩ : S26) : List (S26))).bind fun y165 => ((some (y165.set (x5_1 : Int).toNat (⟨(rd_T26 y165 x5_1).f0, (rd_T26 y165 x5_1).f1, (rd_T26 y165 x5_1).f2, (rd_T26 y165 x5_1).f3, (rd_T26 y165 x5_1).f4, (rd_T26 y165 x5_1).f5, (rd_T26 y165 x5_1).f6, wrap64 ((wrap64 ((wrap64 ((wrap64 ((wrap64 ((wrap64 ((wrap64 (x1_1 + 1)) + 1)) + 1)) + 1)) + 1)) + 1)) + 1), (rd_T26 y165 x5_1).f8, (rd_T26 y165 x5_1).f9⟩ : S26) : List (S26))).bind fun y166 => ((some (y166.set (x5_1 : Int).toNat (⟨(rd_T26 y166 x5_1).f0, (rd_T26 y166 x5_1).f1, (rd_T26 y166 x5_1).f2, (rd_T26 y166 x5_1).f3, (rd_T26 y166 x5_1).f4, (rd_T26 y166 x5_1).f5, (rd_T26 y166 x5_1).f6, (rd_T26 y166 x5_1).f7, wrap64 ((wrap64 ((wrap64 ((wrap64 ((wrap64 ((wrap64 ((wrap64 ((wrap64 (x1_1 + 1)) + 1)) + 1)) + 1)) + 1)) + 1)) + 1)) + 1), (rd_T26 y166 x5_1).f9⟩ : S26) : List (S26))).bind fun y167 => ((laws_markText.f k1 (wrap64 ((wrap64 ((wrap64 ((wrap64 ((wrap64 ((wrap64 ((wrap64 ((wrap64 ((wrap64 (x1_1 + 1)) + 1)) + 1)) + 1)) + 1)) + 1)) + 1)) + 1)) + 1))).bind fun t168 => (laws_markBundleS.l0 k1 (y167.set (x5_1 : Int).toNat (⟨(rd_T26 y167 x5_1).f0, (rd_T26 y167 x5_1).f1, (rd_T26 y167 x5_1).f2, (rd_T26 y167 x5_1).f3, (rd_T26 y167 x5_1).f4, (rd_T26 y167 x5_1).f5, (rd_T26 y167 x5_1).f6, (rd_T26 y167 x5_1).f7, (rd_T26 y167 x5_1).f8, t168⟩ : S26)) (wrap64 ((wrap64 ((wrap64 ((wrap64 ((wrap64 ((wrap64 ((wrap64 ((wrap64 ((wrap64 ((wrap64 (x1_1 + 1)) + 1)) + 1)) + 1)) + 1)) + 1)) + 1)) + 1)) + 1)) + 1)) (wrap64 (x5_1 + 1)))))))) = some (r1, r2) := by first | (rw [hy163]; with_reducible exact H) | (have H2_ := (Option.bind_some _ _).symm.trans H; rw [hy163]; with_reducible exact H2_) | (have H2_ := (Option.bind_some _ _).symm.trans H; with_reducible exact H2_) | with_reducible exact H | (rw [hy163]; exact H) | exact H
          have Ny163 := Aside0.mk hy163
          clear hy163
          obtain ⟨y164, hy164⟩ : ∃ y_ : List (S26), y_ = (y163.set (x5_1 : Int).toNat (⟨(rd_T26 y163 x5_1).f0, (rd_T26 y163 x5_1).f1, (rd_T26 y163 x5_1).f2, (rd_T26 y163 x5_1).f3, (rd_T26 y163 x5_1).f4, wrap64 ((wrap64 ((wrap64 ((wrap64 ((wrap64 (x1_1 + 1)) + 1)) + 1)) + 1)) + 1), (rd_T26 y163 x5_1).f6, (rd_T26 y163 x5_1).f7, (rd_T26 y163 x5_1).f8, (rd_T26 y163 x5_1).f9⟩ : S26)) := ⟨_, rfl⟩
          replace H : ((some (y164.set (x5_1 : Int).toNat (⟨(rd_T26 y164 x5_1).f0, (rd_T26 y164 x5_1).f1, (rd_T26 y164 x5_1).f2, (rd_T26 y164 x5_1).f3, (rd_T26 y164 x5_1).f4, (rd_T26 y164 x5_1).f5, wrap64 ((wrap64 ((wrap64 ((wrap64 ((wrap64 ((wrap64 (x1_1 + 1)) + 1)) + 1)) + 1)) + 1)) + 1), (rd_T26 y164 x5_1).f7, (rd_T26 y164 x5_1).f8, (rd_T26 y164 x5_1).f9⟩ : S26) : List (S26))).bind fun y165 => ((some (y165.set (x5_1 : Int).toNat (⟨(rd_T26 y165 x5_1).f0, (rd_T26 y165 x5_1).f1, (rd_T26 y165 x5_1).f2, (rd_T26 y165 x5_1).f3, (rd_T26 y165 x5_1).f4, (rd_T26 y165 x5_1).f5, (rd_T26 y165 x5_1).f6, wrap64 ((wrap64 ((wrap64 ((wrap64 ((wrap64 ((wrap64 ((wrap64 (x1_1 + 1)) + 1)) + 1)) + 1)) + 1)) + 1)) + 1), (rd_T26 y165 x5_1).f8, (rd_T26 y165 x5_1).f9⟩ : S26) : List (S26))).bind fun y166 => ((some (y166.set (x5_1 : Int).toNat (⟨(rd_T26 y166 x5_1).f0, (rd_T26 y166 x5_1).f1, (rd_T26 y166 x5_1).f2, (rd_T26 y166 x5_1).f3, (rd_T26 y166 x5_1).f4, (rd_T26 y166 x5_1).f5, (rd_T26 y166 x5_1).f6, (rd_T26 y166 x5_1).f7, wrap64 ((wrap64 ((wrap64 ((wrap64 ((wrap64 ((wrap64 ((wrap64 ((wrap64 (x1_1 + 1)) + 1)) + 1)) + 1)) + 1)) + 1)) + 1)) + 1), (rd_T26 y166 x5_1).f9⟩ : S26) : List (S26))).bind fun y167 => ((laws_markText.f k1 (wrap64 ((wrap64 ((wrap64 ((wrap64 ((wrap64 ((wrap64 ((wrap64 ((wrap64 ((wrap64 (x1_1 + 1)) + 1)) + 1)) + 1)) + 1)) + 1)) + 1)) + 1)) + 1))).bind fun t168 => (laws_markBundleS.l0 k1 (y167.set (x5_1 : Int).toNat (⟨(rd_T26 y167 x5_1).f0, (rd_T26 y167 x5_1).f1, (rd_T26 y167 x5_1).f2, (rd_T26 y167 x5_1).f3, (rd_T26 y167 x5_1).f4, (rd_T26 y167 x5_1).f5, (rd_T26 y167 x5_1).f6, (rd_T26 y167 x5_1).f7, (rd_T26 y167 x5_1).f8, t168⟩ : S26)) (wrap64 ((wrap64 ((wrap64 ((wrap64 ((wrap64 ((wrap64 ((wrap64 ((wrap64 ((wrap64 ((wrap64 (x1_1 + 1)) + 1)) + 1)) + 1)) + 1)) + 1)) + 1)) + 1)) + 1)) + 1)) (wrap64 (x5_1 + 1))))))) = some (r1, r2) := by first | (rw [hy164]; with_reducible exact H) | (have H2_ := (Option.bind_some _ _).symm.trans H; rw [hy164]; with_reducible exact H2_) | (have H2_ := (Option.bind_some _ _).symm.trans H; with_reducible exact H2_) | with_reducible exact H | (rw [hy164]; exact H) | exact H
          have Ny164 := Aside0.mk hy164
          clear hy164
          obtain ⟨y165, hy165⟩ : ∃ y_ : List (S26), y_ = (y164.set (x5_1 : Int).toNat (⟨(rd_T26 y164 x5_1).f0, (rd_T26 y164 x5_1).f1, (rd_T26 y164 x5_1).f2, (rd_T26 y164 x5_1).f3, (rd_T26 y164 x5_1).f4, (rd_T26 y164 x5_1).f5, wrap64 ((wrap64 ((wrap64 ((wrap64 ((wrap64 ((wrap64 (x1_1 + 1)) + 1)) + 1)) + 1)) + 1)) + 1), (rd_T26 y164 x5_1).f7, (rd_T26 y164 x5_1).f8, (rd_T26 y164 x5_1).f9⟩ : S26)) := ⟨_, rfl⟩
          replace H : ((some (y165.set (x5_1 : Int).toNat (⟨(rd_T26 y165 x5_1).f0, (rd_T26 y165 x5_1).f1, (rd_T26 y165 x5_1).f2, (rd_T26 y165 x5_1).f3, (rd_T26 y165 x5_1).f4, (rd_T26 y165 x5_1).f5, (rd_T26 y165 x5_1).f6, wrap64 ((wrap64 ((wrap64 ((wrap64 ((wrap64 ((wrap64 ((wrap64 (x1_1 + 1)) + 1)) + 1)) + 1)) + 1)) + 1)) + 1), (rd_T26 y165 x5_1).f8, (rd_T26 y165 x5_1).f9⟩ : S26) : List (S26))).bind fun y166 => ((some (y166.set (x5_1 : Int).toNat (⟨(rd_T26 y166 x5_1).f0, (rd_T26 y166 x5_1).f1, (rd_T26 y166 x5_1).f2, (rd_T26 y166 x5_1).f3, (rd_T26 y166 x5_1).f4, (rd_T26 y166 x5_1).f5, (rd_T26 y166 x5_1).f6, (rd_T26 y166 x5_1).f7, wrap64 ((wrap64 ((wrap64 ((wrap64 ((wrap64 ((wrap64 ((wrap64 ((wrap64 (x1_1 + 1)) + 1)) + 1)) + 1)) + 1)) + 1)) + 1)) + 1), (rd_T26 y166 x5_1).f9⟩ : S26) : List (S26))).bind fun y167 => ((laws_markText.f k1 (wrap64 ((wrap64 ((wrap64 ((wrap64 ((wrap64 ((wrap64 ((wrap64 ((wrap64 ((wrap64 (x1_1 + 1)) + 1)) + 1)) + 1)) + 1)) + 1)) + 1)) + 1)) + 1))).bind fun t168 => (laws_markBundleS.l0 k1 (y167.set (x5_1 : Int).toNat (⟨(rd_T26 y167 x5_1).f0, (rd_T26 y167 x5_1).f1, (rd_T26 y167 x5_1).f2, (rd_T26 y167 x5_1).f3, (rd_T26 y167 x5_1).f4, (rd_T26 y167 x5_1).f5, (rd_T26 y167 x5_1).f6, (rd_T26 y167 x5_1).f7, (rd_T26 y167 x5_1).f8, t168⟩ : S26)) (wrap64 ((wrap64 ((wrap64 ((wrap64 ((wrap64 ((wrap64 ((wrap64 ((wrap64 ((wrap64 ((wrap64 (x1_1 + 1)) + 1)) + 1)) + 1)) + 1)) + 1)) + 1)) + 1)) + 1)) + 1)) (wrap64 (x5_1 + 1)))))) = some (r1, r2) := by first | (rw [hy165]; with_reducible exact H) | (have H2_ := (Option.bind_some _ _).symm.trans H; rw [hy165]; with_reducible exact H2_) | (have H2_ := (Option.bind_some _ _).symm.trans H; with_reducible exact H2_) | with_reducible exact H | (rw [hy165]; exact H) | exact H
          have Ny165 := Aside0.mk hy165
          clear hy165
          obtain ⟨y166, hy166⟩ : ∃ y_ : List (S26), y_ = (y165.set (x5_1 : Int).toNat (⟨(rd_T26 y165 x5_1).f0, (rd_T26 y165 x5_1).f1, (rd_T26 y165 x5_1).f2, (rd_T26 y165 x5_1).f3, (rd_T26 y165 x5_1).f4, (rd_T26 y165 x5_1).f5, (rd_T26 y165 x5_1).f6, wrap64 ((wrap64 ((wrap64 ((wrap64 ((wrap64 ((wrap64 ((wrap64 (x1_1 + 1)) + 1)) + 1)) + 1)) + 1)) + 1)) + 1), (rd_T26 y165 x5_1).f8, (rd_T26 y165 x5_1).f9⟩ : S26)) := ⟨_, rfl⟩
          replace H : ((some (y166.set (x5_1 : Int).toNat (⟨(rd_T26 y166 x5_1).f0, (rd_T26 y166 x5_1).f1, (rd_T26 y166 x5_1).f2, (rd_T26 y166 x5_1).f3, (rd_T26 y166 x5_1).f4, (rd_T26 y166 x5_1).f5, (rd_T26 y166 x5_1).f6, (rd_T26 y166 x5_1).f7, wrap64 ((wrap64 ((wrap64 ((wrap64 ((wrap64 ((wrap64 ((wrap64 ((wrap64 (x1_1 + 1)) + 1)) + 1)) + 1)) + 1)) + 1)) + 1)) + 1), (rd_T26 y166 x5_1).f9⟩ : S26) : List (S26))).bind fun y167 => ((laws_markText.f k1 (wrap64 ((wrap64 ((wrap64 ((wrap64 ((wrap64 ((wrap64 ((wrap64 ((wrap64 ((wrap64 (x1_1 + 1)) + 1)) + 1)) + 1)) + 1)) + 1)) + 1)) + 1)) + 1))).bind fun t168 => (laws_markBundleS.l0 k1 (y167.set (x5_1 : Int).toNat (⟨(rd_T26 y167 x5_1).f0, (rd_T26 y167 x5_1).f1, (rd_T26 y167 x5_1).f2, (rd_T26 y167 x5_1).f3, (rd_T26 y167 x5_1).f4, (rd_T26 y167 x5_1).f5, (rd_T26 y167 x5_1).f6, (rd_T26 y167 x5_1).f7, (rd_T26 y167 x5_1).f8, t168⟩ : S26)) (wrap64 ((wrap64 ((wrap64 ((wrap64 ((wrap64 ((wrap64 ((wrap64 ((wrap64 ((wrap64 ((wrap64 (x1_1 + 1)) + 1)) + 1)) + 1)) + 1)) + 1)) + 1)) + 1)) + 1)) + 1)) (wrap64 (x5_1 + 1))))) = some (r1, r2) := by first | (rw [hy166]; with_reducible exact H) | (have H2_ := (Option.bind_some _ _).symm.trans H; rw [hy166]; with_reducible exact H2_) | (have H2_ := (Option.bind_some _ _).symm.trans H; with_reducible exact H2_) | with_reducible exact H | (rw [hy166]; exact H) | exact H
          have Ny166 := Aside0.mk hy166
          clear hy166
          obtain ⟨y167, hy167⟩ : ∃ y_ : List (S26), y_ = (y166.set (x5_1 : Int).toNat (⟨(rd_T26 y166 x5_1).f0, (rd_T26 y166 x5_1).f1, (rd_T26 y166 x5_1).f2, (rd_T26 y166 x5_1).f3, (rd_T26 y166 x5_1).f4, (rd_T26 y166 x5_1).f5, (rd_T26 y166 x5_1).f6, (rd_T26 y166 x5_1).f7, wrap64 ((wrap64 ((wrap64 ((wrap64 ((wrap64 ((wrap64 ((wrap64 ((wrap64 (x1_1 + 1)) + 1)) + 1)) + 1)) + 1)) + 1)) + 1)) + 1), (rd_T26 y166 x5_1).f9⟩ : S26)) := ⟨_, rfl⟩
          replace H : ((laws_markText.f k1 (wrap64 ((wrap64 ((wrap64 ((wrap64 ((wrap64 ((wrap64 ((wrap64 ((wrap64 ((wrap64 (x1_1 + 1)) + 1)) + 1)) + 1)) + 1)) + 1)) + 1)) + 1)) + 1))).bind fun t168 => (laws_markBundleS.l0 k1 (y167.set (x5_1 : Int).toNat (⟨(rd_T26 y167 x5_1).f0, (rd_T26 y167 x5_1).f1, (rd_T26 y167 x5_1).f2, (rd_T26 y167 x5_1).f3, (rd_T26 y167 x5_1).f4, (rd_T26 y167 x5_1).f5, (rd_T26 y167 x5_1).f6, (rd_T26 y167 x5_1).f7, (rd_T26 y167 x5_1).f8, t168⟩ : S26)) (wrap64 ((wrap64 ((wrap64 ((wrap64 ((wrap64 ((wrap64 ((wrap64 ((wrap64 ((wrap64 ((wrap64 (x1_1 + 1)) + 1)) + 1)) + 1)) + 1)) + 1)) + 1)) + 1)) + 1)) + 1)) (wrap64 (x5_1 + 1)))) = some (r1, r2) := by first | (rw [hy167]; with_reducible exact H) | (have H2_ := (Option.bind_some _ _).symm.trans H; rw [hy167]; with_reducible exact H2_) | (have H2_ := (Option.bind_some _ _).symm.trans H; with_reducible exact H2_) | with_reducible exact H | (rw [hy167]; exact H) | exact H
          have Ny167 := Aside0.mk hy167
          clear hy167
          replace H := Option.bind_eq_some_iff.mp H
          obtain ⟨t168, A140, H⟩ := H
          replace H : (laws_markBundleS.l0 k1 (y167.set (x5_1 : Int).toNat (⟨(rd_T26 y167 x5_1).f0, (rd_T26 y167 x5_1).f1, (rd_T26 y167 x5_1).f2, (rd_T26 y167 x5_1).f3, (rd_T26 y167 x5_1).f4, (rd_T26 y167 x5_1).f5, (rd_T26 y167 x5_1).f6, (rd_T26 y167 x5_1).f7, (rd_T26 y167 x5_1).f8, t168⟩ : S26)) (wrap64 ((wrap64 ((wrap64 ((wrap64 ((wrap64 ((wrap64 ((wrap64 ((wrap64 ((wrap64 ((wrap64 (x1_1 + 1)) + 1)) + 1)) + 1)) + 1)) + 1)) + 1)) + 1)) + 1)) + 1)) (wrap64 (x5_1 + 1))) = some (r1, r2) := H
          have A14 := Aside0.mk A140
          clear A140
          obtain ⟨y169, hy169⟩ : ∃ y_ : List (S26), y_ = (y167.set (x5_1 : Int).toNat (⟨(rd_T26 y167 x5_1).f0, (rd_T26 y167 x5_1).f1, (rd_T26 y167 x5_1).f2, (rd_T26 y167 x5_1).f3, (rd_T26 y167 x5_1).f4, (rd_T26 y167 x5_1).f5, (rd_T26 y167 x5_1).f6, (rd_T26 y167 x5_1).f7, (rd_T26 y167 x5_1).f8, t168⟩ : S26)) := ⟨_, rfl⟩
          replace H : (laws_markBundleS.l0 k1 y169 (wrap64 ((wrap64 ((wrap64 ((wrap64 ((wrap64 ((wrap64 ((wrap64 ((wrap64 ((wrap64 ((wrap64 (x1_1 + 1)) + 1)) + 1)) + 1)) + 1)) + 1)) + 1)) + 1)) + 1)) + 1)) (wrap64 (x5_1 + 1))) = some (r1, r2) := by first | (rw [hy169]; with_reducible exact H) | (have H2_ := (Option.bind_some _ _).symm.trans H; rw [hy169]; with_reducible exact H2_) | (have H2_ := (Option.bind_some _ _).symm.trans H; with_reducible exact H2_) | with_reducible exact H | (rw [hy169]; exact H) | exact H
          have Ny169 := Aside0.mk hy169
          clear hy169
          have H' := Aside0.mk H
          clear H
          obtain ⟨Ao16, co16, eo16⟩ := Kd.R_slice HO_0.out
          subst eo16
          have p5 : 0 ≤ (x5_1 : Int) := of_decide_eq_true (by first | (with_reducible assumption) | assumption)
          have q5 : (x5_1 : Int) < ((x0_1.length : Int) : Int) := of_decide_eq_true (by first | (with_reducible assumption) | assumption)
          obtain ⟨go5, co5, eo5, gb5, gl5, cl5, HG5⟩ := Kd.R_form HO_0.out (by omega)
          (first | cases eo5 | (injection eo5 with ea_ en_ ec_; (first | subst ea_ | (injection ea_ with ea_; subst ea_)); subst ec_; clear en_))
          have GB5 := Aside0.mk gb5
          have GG5 := Aside0.mk HG5
          clear gb5 gl5 HG5
          have HMgo5 := Aside0.mk (show (P0_ go5 ∨ w.heap.size ≤ go5) from (HO_0.out.1 _ rfl))
          obtain ⟨ce5, hcl5, hM5, hcc5, hfr5⟩ := Kd.R_elem HO_0.out z26 (x5_1 : Int) p5 q5
          obtain rfl := k26_openM hM5
          have hx5_0 : wr.cell? ⟨go5, (x5_1 : Int).toNat * 10, none⟩ = some (.int .i64 ((rd_T26 x0_1 x5_1).f0)) := hcc5 0 _ rfl
          have hx5_1 : wr.cell? ⟨go5, (x5_1 : Int).toNat * 10 + 1, none⟩ = some (.int .i64 ((rd_T26 x0_1 x5_1).f1)) := hcc5 1 _ rfl
          have hx5_2 : wr.cell? ⟨go5, (x5_1 : Int).toNat * 10 + 2, none⟩ = some (.bool ((rd_T26 x0_1 x5_1).f2)) := hcc5 2 _ rfl
          have hx5_3 : wr.cell? ⟨go5, (x5_1 : Int).toNat * 10 + 3, none⟩ = some (.int .i64 ((rd_T26 x0_1 x5_1).f3)) := hcc5 3 _ rfl
          have hx5_4 : wr.cell? ⟨go5, (x5_1 : Int).toNat * 10 + 4, none⟩ = some (.int .i64 ((rd_T26 x0_1 x5_1).f4)) := hcc5 4 _ rfl
          have hx5_5 : wr.cell? ⟨go5, (x5_1 : Int).toNat * 10 + 5, none⟩ = some (.int .i64 ((rd_T26 x0_1 x5_1).f5)) := hcc5 5 _ rfl
          have hx5_6 : wr.cell? ⟨go5, (x5_1 : Int).toNat * 10 + 6, none⟩ = some (.int .i64 ((rd_T26 x0_1 x5_1).f6)) := hcc5 6 _ rfl
          have hx5_7 : wr.cell? ⟨go5, (x5_1 : Int).toNat * 10 + 7, none⟩ = some (.int .i64 ((rd_T26 x0_1 x5_1).f7)) := hcc5 7 _ rfl
          have hx5_8 : wr.cell? ⟨go5, (x5_1 : Int).toNat * 10 + 8, none⟩ = some (.int .i64 ((rd_T26 x0_1 x5_1).f8)) := hcc5 8 _ rfl
          have hx5_9 : wr.cell? ⟨go5, (x5_1 : Int).toNat * 10 + 9, none⟩ = some (.string ((rd_T26 x0_1 x5_1).f9)) := hcc5 9 _ rfl
          have hf5_0 : wr.frozen? ⟨go5, (x5_1 : Int).toNat * 10, none⟩ = false := hfr5 0
          have hf5_1 : wr.frozen? ⟨go5, (x5_1 : Int).toNat * 10 + 1, none⟩ = false := hfr5 1
          have hf5_2 : wr.frozen? ⟨go5, (x5_1 : Int).toNat * 10 + 2, none⟩ = false := hfr5 2
          have hf5_3 : wr.frozen? ⟨go5, (x5_1 : Int).toNat * 10 + 3, none⟩ = false := hfr5 3
          have hf5_4 : wr.frozen? ⟨go5, (x5_1 : Int).toNat * 10 + 4, none⟩ = false := hfr5 4
          have hf5_5 : wr.frozen? ⟨go5, (x5_1 : Int).toNat * 10 + 5, none⟩ = false := hfr5 5
          have hf5_6 : wr.frozen? ⟨go5, (x5_1 : Int).toNat * 10 + 6, none⟩ = false := hfr5 6
          have hf5_7 : wr.frozen? ⟨go5, (x5_1 : Int).toNat * 10 + 7, none⟩ = false := hfr5 7
          have hf5_8 : wr.frozen? ⟨go5, (x5_1 : Int).toNat * 10 + 8, none⟩ = false := hfr5 8
          have hf5_9 : wr.frozen? ⟨go5, (x5_1 : Int).toNat * 10 + 9, none⟩ = false := hfr5 9
          clear hcl5 hcc5 hfr5 hM5
          replace p5 := eq_true p5
          replace q5 := eq_true q5
          have HX17 := Aside0.mk (show Kd.R k26 26 wr w0.heap.size (fun k_ => (P0_ k_ ∨ w.heap.size ≤ k_)) (.slice (some ⟨go5, 0, none⟩) x0_1.length co16) x0_1 from (by (with_reducible repeat (first | apply Kd.R_alloc | apply Kd.R_drewN | apply Kd.R_drew)); exact HO_0.out))
          obtain ⟨ce17, hcl17, hM17, hcc17, hfr17⟩ := Kd.R_elem HX17.out z26 (x5_1 : Int) (of_decide_eq_true (by first | (with_reducible assumption) | assumption)) (by have h_ : (x5_1 : Int) < ((x0_1.length : Int) : Int) := of_decide_eq_true (by first | (with_reducible assumption) | assumption); first | exact h_ | (have e_ := (Kd.R_reads' HO_0.out).1; omega) | simpa using h_)
          obtain rfl := k26_openM hM17
          have HP17 := Kd.R_seg HX17.out (x5_1 : Int) (of_decide_eq_true (by first | (with_reducible assumption) | assumption)) (by have h_ : (x5_1 : Int) < ((x0_1.length : Int) : Int) := of_decide_eq_true (by first | (with_reducible assumption) | assumption); first | exact h_ | (have e_ := (Kd.R_reads' HO_0.out).1; omega) | simpa using h_) (seg := [.int .i64 x1_1]) (j := 0) hcl17 hcc17 (show 1 ≤ 10 from by decide) (x' := (⟨x1_1, (rd_T26 x0_1 x5_1).f1, (rd_T26 x0_1 x5_1).f2, (rd_T26 x0_1 x5_1).f3, (rd_T26 x0_1 x5_1).f4, (rd_T26 x0_1 x5_1).f5, (rd_T26 x0_1 x5_1).f6, (rd_T26 x0_1 x5_1).f7, (rd_T26 x0_1 x5_1).f8, (rd_T26 x0_1 x5_1).f9⟩ : S26)) (k26_mkM _ _ _ (⟨x1_1, (rd_T26 x0_1 x5_1).f1, (rd_T26 x0_1 x5_1).f2, (rd_T26 x0_1 x5_1).f3, (rd_T26 x0_1 x5_1).f4, (rd_T26 x0_1 x5_1).f5, (rd_T26 x0_1 x5_1).f6, (rd_T26 x0_1 x5_1).f7, (rd_T26 x0_1 x5_1).f8, (rd_T26 x0_1 x5_1).f9⟩ : S26) ) (fun _ hk => hk)
          have hx17_0 := hcc17 0 _ rfl
          (try simp only [show (k26).sz = 10 from rfl, Nat.mul_one, Nat.add_zero] at hx17_0)
          have hf17_0 := hfr17 0
          (try simp only [show (k26).sz = 10 from rfl, Nat.mul_one, Nat.add_zero] at hf17_0)
          clear hcl17 hcc17 hfr17 hM17
          go_wp2_with (first | ((with_reducible refine gate_store (t := 3) (p := 16) rfl ?_); refine store_event (t := 3) (p := 16) (v := ?vo_w18) (w1 := (wr.setCell ⟨go5, (x5_1 : Int).toNat * 10, none⟩ (.int .i64 x1_1))) ?hg ?ho ?hn ?hr ?_; (case ho => rfl); (case hg => rfl); (case hn => rfl); (case hr => first | (go_simp; done) | (go_simp; rfl)); intro w18 hw; have hg : wr.grownBy w18 (some go5) := (by rw [hw]; exact HP17.2); have hp_ : Kd.R k26 26 w18 w0.heap.size (fun k_ => (P0_ k_ ∨ w.heap.size ≤ k_)) (.slice (some ⟨go5, 0, none⟩) x0_1.length co16) y159 := (by rw [hw, Ny159.out]; exact HP17.1); clear HP17; have n0_ := Aside0.mk (hp_); have n1_ := Aside0.mk ((by rw [hw]; exact below_set (HB.out) GB5.out : Below w0.heap.size w0 w18)); have n2_ := Aside0.mk (Kept.of_grown (S := (fun k_ => P0_ k_)) hg (by repeat (first | (with_reducible first | exact HK.out | apply Kept.alloc | apply Kept.drewN | apply Kept.drew) | exact HK.out)) (fun k_ e_ => (HO_0.out.1 k_ e_))); clear HO_0; clear HB; clear HK; have HO_0 := n0_; have HB := n1_; have HK := n2_; clear n0_ n1_ n2_; clear hg hw hp_; have p6 : 0 ≤ (x5_1 : Int) := of_decide_eq_true (by first | (with_reducible assumption) | assumption); have q6 : (x5_1 : Int) < ((x0_1.length : Int) : Int) := of_decide_eq_true (by first | (with_reducible assumption) | assumption); obtain ⟨ce6, hcl6, hM6, hcc6, hfr6⟩ := Kd.R_elem HO_0.out z26 (x5_1 : Int) p6 q6; obtain rfl := k26_openM hM6; have hx6_0 : w18.cell? ⟨go5, (x5_1 : Int).toNat * 10, none⟩ = some (.int .i64 ((rd_T26 y159 x5_1).f0)) := hcc6 0 _ rfl; have hx6_1 : w18.cell? ⟨go5, (x5_1 : Int).toNat * 10 + 1, none⟩ = some (.int .i64 ((rd_T26 y159 x5_1).f1)) := hcc6 1 _ rfl; have hx6_2 : w18.cell? ⟨go5, (x5_1 : Int).toNat * 10 + 2, none⟩ = some (.bool ((rd_T26 y159 x5_1).f2)) := hcc6 2 _ rfl; have hx6_3 : w18.cell? ⟨go5, (x5_1 : Int).toNat * 10 + 3, none⟩ = some (.int .i64 ((rd_T26 y159 x5_1).f3)) := hcc6 3 _ rfl; have hx6_4 : w18.cell? ⟨go5, (x5_1 : Int).toNat * 10 + 4, none⟩ = some (.int .i64 ((rd_T26 y159 x5_1).f4)) := hcc6 4 _ rfl; have hx6_5 : w18.cell? ⟨go5, (x5_1 : Int).toNat * 10 + 5, none⟩ = some (.int .i64 ((rd_T26 y159 x5_1).f5)) := hcc6 5 _ rfl; have hx6_6 : w18.cell? ⟨go5, (x5_1 : Int).toNat * 10 + 6, none⟩ = some (.int .i64 ((rd_T26 y159 x5_1).f6)) := hcc6 6 _ rfl; have hx6_7 : w18.cell? ⟨go5, (x5_1 : Int).toNat * 10 + 7, none⟩ = some (.int .i64 ((rd_T26 y159 x5_1).f7)) := hcc6 7 _ rfl; have hx6_8 : w18.cell? ⟨go5, (x5_1 : Int).toNat * 10 + 8, none⟩ = some (.int .i64 ((rd_T26 y159 x5_1).f8)) := hcc6 8 _ rfl; have hx6_9 : w18.cell? ⟨go5, (x5_1 : Int).toNat * 10 + 9, none⟩ = some (.string ((rd_T26 y159 x5_1).f9)) := hcc6 9 _ rfl; have hf6_0 : w18.frozen? ⟨go5, (x5_1 : Int).toNat * 10, none⟩ = false := hfr6 0; have hf6_1 : w18.frozen? ⟨go5, (x5_1 : Int).toNat * 10 + 1, none⟩ = false := hfr6 1; have hf6_2 : w18.frozen? ⟨go5, (x5_1 : Int).toNat * 10 + 2, none⟩ = false := hfr6 2; have hf6_3 : w18.frozen? ⟨go5, (x5_1 : Int).toNat * 10 + 3, none⟩ = false := hfr6 3; have hf6_4 : w18.frozen? ⟨go5, (x5_1 : Int).toNat * 10 + 4, none⟩ = false := hfr6 4; have hf6_5 : w18.frozen? ⟨go5, (x5_1 : Int).toNat * 10 + 5, none⟩ = false := hfr6 5; have hf6_6 : w18.frozen? ⟨go5, (x5_1 : Int).toNat * 10 + 6, none⟩ = false := hfr6 6; have hf6_7 : w18.frozen? ⟨go5, (x5_1 : Int).toNat * 10 + 7, none⟩ = false := hfr6 7; have hf6_8 : w18.frozen? ⟨go5, (x5_1 : Int).toNat * 10 + 8, none⟩ = false := hfr6 8; have hf6_9 : w18.frozen? ⟨go5, (x5_1 : Int).toNat * 10 + 9, none⟩ = false := hfr6 9; clear hcl6 hcc6 hfr6 hM6; replace p6 := eq_true p6; replace q6 := eq_true q6; have HX19 := Aside0.mk (show Kd.R k26 26 w18 w0.heap.size (fun k_ => (P0_ k_ ∨ w.heap.size ≤ k_)) (.slice (some ⟨go5, 0, none⟩) x0_1.length co16) y159 from (by (with_reducible repeat (first | apply Kd.R_alloc | apply Kd.R_drewN | apply Kd.R_drew)); exact HO_0.out)); obtain ⟨ce19, hcl19, hM19, hcc19, hfr19⟩ := Kd.R_elem HX19.out z26 (x5_1 : Int) (of_decide_eq_true (by first | (with_reducible assumption) | assumption)) (by have h_ : (x5_1 : Int) < ((x0_1.length : Int) : Int) := of_decide_eq_true (by first | (with_reducible assumption) | assumption); first | exact h_ | (have e_ := (Kd.R_reads' HO_0.out).1; omega) | simpa using h_); obtain rfl := k26_openM hM19; have HP19 := Kd.R_seg HX19.out (x5_1 : Int) (of_decide_eq_true (by first | (with_reducible assumption) | assumption)) (by have h_ : (x5_1 : Int) < ((x0_1.length : Int) : Int) := of_decide_eq_true (by first | (with_reducible assumption) | assumption); first | exact h_ | (have e_ := (Kd.R_reads' HO_0.out).1; omega) | simpa using h_) (seg := [.int .i64 (wrap64 (x1_1 + 1))]) (j := 1) hcl19 hcc19 (show 2 ≤ 10 from by decide) (x' := (⟨(rd_T26 y159 x5_1).f0, wrap64 (x1_1 + 1), (rd_T26 y159 x5_1).f2, (rd_T26 y159 x5_1).f3, (rd_T26 y159 x5_1).f4, (rd_T26 y159 x5_1).f5, (rd_T26 y159 x5_1).f6, (rd_T26 y159 x5_1).f7, (rd_T26 y159 x5_1).f8, (rd_T26 y159 x5_1).f9⟩ : S26)) (k26_mkM _ _ _ (⟨(rd_T26 y159 x5_1).f0, wrap64 (x1_1 + 1), (rd_T26 y159 x5_1).f2, (rd_T26 y159 x5_1).f3, (rd_T26 y159 x5_1).f4, (rd_T26 y159 x5_1).f5, (rd_T26 y159 x5_1).f6, (rd_T26 y159 x5_1).f7, (rd_T26 y159 x5_1).f8, (rd_T26 y159 x5_1).f9⟩ : S26) ) (fun _ hk => hk); have hx19_1 := hcc19 1 _ rfl; (try simp only [show (k26).sz = 10 from rfl, Nat.mul_one, Nat.add_zero] at hx19_1); have hf19_1 := hfr19 1; (try simp only [show (k26).sz = 10 from rfl, Nat.mul_one, Nat.add_zero] at hf19_1); clear hcl19 hcc19 hfr19 hM19) | ((with_reducible refine gate_store (t := 3) (p := 23) rfl ?_); refine store_event (t := 3) (p := 23) (v := ?vo_w20) (w1 := (w18.setCell ⟨go5, (x5_1 : Int).toNat * 10 + 1, none⟩ (.int .i64 (wrap64 (x1_1 + 1))))) ?hg ?ho ?hn ?hr ?_; (case ho => rfl); (case hg => rfl); (case hn => rfl); (case hr => first | (go_simp; done) | (go_simp; rfl)); intro w20 hw; have hg : w18.grownBy w20 (some go5) := (by rw [hw]; exact HP19.2); have hp_ : Kd.R k26 26 w20 w0.heap.size (fun k_ => (P0_ k_ ∨ w.heap.size ≤ k_)) (.slice (some ⟨go5, 0, none⟩) x0_1.length co16) y160 := (by rw [hw, Ny160.out]; exact HP19.1); clear HP19; have n0_ := Aside0.mk (hp_); have n1_ := Aside0.mk ((by rw [hw]; exact below_set (HB.out) GB5.out : Below w0.heap.size w0 w20)); have n2_ := Aside0.mk (Kept.of_grown (S := (fun k_ => P0_ k_)) hg (by repeat (first | (with_reducible first | exact HK.out | apply Kept.alloc | apply Kept.drewN | apply Kept.drew) | exact HK.out)) (fun k_ e_ => (HO_0.out.1 k_ e_))); clear HO_0; clear HB; clear HK; have HO_0 := n0_; have HB := n1_; have HK := n2_; clear n0_ n1_ n2_; clear hg hw hp_; have p7 : 0 ≤ (x5_1 : Int) := of_decide_eq_true (by first | (with_reducible assumption) | assumption); have q7 : (x5_1 : Int) < ((x0_1.length : Int) : Int) := of_decide_eq_true (by first | (with_reducible assumption) | assumption); obtain ⟨ce7, hcl7, hM7, hcc7, hfr7⟩ := Kd.R_elem HO_0.out z26 (x5_1 : Int) p7 q7; obtain rfl := k26_openM hM7; have hx7_0 : w20.cell? ⟨go5, (x5_1 : Int).toNat * 10, none⟩ = some (.int .i64 ((rd_T26 y160 x5_1).f0)) := hcc7 0 _ rfl; have hx7_1 : w20.cell? ⟨go5, (x5_1 : Int).toNat * 10 + 1, none⟩ = some (.int .i64 ((rd_T26 y160 x5_1).f1)) := hcc7 1 _ rfl; have hx7_2 : w20.cell? ⟨go5, (x5_1 : Int).toNat * 10 + 2, none⟩ = some (.bool ((rd_T26 y160 x5_1).f2)) := hcc7 2 _ rfl; have hx7_3 : w20.cell? ⟨go5, (x5_1 : Int).toNat * 10 + 3, none⟩ = some (.int .i64 ((rd_T26 y160 x5_1).f3)) := hcc7 3 _ rfl; have hx7_4 : w20.cell? ⟨go5, (x5_1 : Int).toNat * 10 + 4, none⟩ = some (.int .i64 ((rd_T26 y160 x5_1).f4)) := hcc7 4 _ rfl; have hx7_5 : w20.cell? ⟨go5, (x5_1 : Int).toNat * 10 + 5, none⟩ = some (.int .i64 ((rd_T26 y160 x5_1).f5)) := hcc7 5 _ rfl; have hx7_6 : w20.cell? ⟨go5, (x5_1 : Int).toNat * 10 + 6, none⟩ = some (.int .i64 ((rd_T26 y160 x5_1).f6)) := hcc7 6 _ rfl; have hx7_7 : w20.cell? ⟨go5, (x5_1 : Int).toNat * 10 + 7, none⟩ = some (.int .i64 ((rd_T26 y160 x5_1).f7)) := hcc7 7 _ rfl; have hx7_8 : w20.cell? ⟨go5, (x5_1 : Int).toNat * 10 + 8, none⟩ = some (.int .i64 ((rd_T26 y160 x5_1).f8)) := hcc7 8 _ rfl; have hx7_9 : w20.cell? ⟨go5, (x5_1 : Int).toNat * 10 + 9, none⟩ = some (.string ((rd_T26 y160 x5_1).f9)) := hcc7 9 _ rfl; have hf7_0 : w20.frozen? ⟨go5, (x5_1 : Int).toNat * 10, none⟩ = false := hfr7 0; have hf7_1 : w20.frozen? ⟨go5, (x5_1 : Int).toNat * 10 + 1, none⟩ = false := hfr7 1; have hf7_2 : w20.frozen? ⟨go5, (x5_1 : Int).toNat * 10 + 2, none⟩ = false := hfr7 2; have hf7_3 : w20.frozen? ⟨go5, (x5_1 : Int).toNat * 10 + 3, none⟩ = false := hfr7 3; have hf7_4 : w20.frozen? ⟨go5, (x5_1 : Int).toNat * 10 + 4, none⟩ = false := hfr7 4; have hf7_5 : w20.frozen? ⟨go5, (x5_1 : Int).toNat * 10 + 5, none⟩ = false := hfr7 5; have hf7_6 : w20.frozen? ⟨go5, (x5_1 : Int).toNat * 10 + 6, none⟩ = false := hfr7 6; have hf7_7 : w20.frozen? ⟨go5, (x5_1 : Int).toNat * 10 + 7, none⟩ = false := hfr7 7; have hf7_8 : w20.frozen? ⟨go5, (x5_1 : Int).toNat * 10 + 8, none⟩ = false := hfr7 8; have hf7_9 : w20.frozen? ⟨go5, (x5_1 : Int).toNat * 10 + 9, none⟩ = false := hfr7 9; clear hcl7 hcc7 hfr7 hM7; replace p7 := eq_true p7; replace q7 := eq_true q7; have HX21 := Aside0.mk (show Kd.R k26 26 w20 w0.heap.size (fun k_ => (P0_ k_ ∨ w.heap.size ≤ k_)) (.slice (some ⟨go5, 0, none⟩) x0_1.length co16) y160 from (by (with_reducible repeat (first | apply Kd.R_alloc | apply Kd.R_drewN | apply Kd.R_drew)); exact HO_0.out)); obtain ⟨ce21, hcl21, hM21, hcc21, hfr21⟩ := Kd.R_elem HX21.out z26 (x5_1 : Int) (of_decide_eq_true (by first | (with_reducible assumption) | assumption)) (by have h_ : (x5_1 : Int) < ((x0_1.length : Int) : Int) := of_decide_eq_true (by first | (with_reducible assumption) | assumption); first | exact h_ | (have e_ := (Kd.R_reads' HO_0.out).1; omega) | simpa using h_); obtain rfl := k26_openM hM21; have HP21 := Kd.R_seg HX21.out (x5_1 : Int) (of_decide_eq_true (by first | (with_reducible assumption) | assumption)) (by have h_ : (x5_1 : Int) < ((x0_1.length : Int) : Int) := of_decide_eq_true (by first | (with_reducible assumption) | assumption); first | exact h_ | (have e_ := (Kd.R_reads' HO_0.out).1; omega) | simpa using h_) (seg := [.bool ((Int.tmod (wrap64 ((wrap64 (x1_1 + 1)) + 1)) 3) == 0)]) (j := 2) hcl21 hcc21 (show 3 ≤ 10 from by decide) (x' := (⟨(rd_T26 y160 x5_1).f0, (rd_T26 y160 x5_1).f1, ((Int.tmod (wrap64 ((wrap64 (x1_1 + 1)) + 1)) 3) == 0), (rd_T26 y160 x5_1).f3, (rd_T26 y160 x5_1).f4, (rd_T26 y160 x5_1).f5, (rd_T26 y160 x5_1).f6, (rd_T26 y160 x5_1).f7, (rd_T26 y160 x5_1).f8, (rd_T26 y160 x5_1).f9⟩ : S26)) (k26_mkM _ _ _ (⟨(rd_T26 y160 x5_1).f0, (rd_T26 y160 x5_1).f1, ((Int.tmod (wrap64 ((wrap64 (x1_1 + 1)) + 1)) 3) == 0), (rd_T26 y160 x5_1).f3, (rd_T26 y160 x5_1).f4, (rd_T26 y160 x5_1).f5, (rd_T26 y160 x5_1).f6, (rd_T26 y160 x5_1).f7, (rd_T26 y160 x5_1).f8, (rd_T26 y160 x5_1).f9⟩ : S26) ) (fun _ hk => hk); have hx21_2 := hcc21 2 _ rfl; (try simp only [show (k26).sz = 10 from rfl, Nat.mul_one, Nat.add_zero] at hx21_2); have hf21_2 := hfr21 2; (try simp only [show (k26).sz = 10 from rfl, Nat.mul_one, Nat.add_zero] at hf21_2); clear hcl21 hcc21 hfr21 hM21) | ((with_reducible refine gate_store (t := 4) (p := 32) rfl ?_); refine store_event (t := 4) (p := 32) (v := ?vo_w22) (w1 := (w20.setCell ⟨go5, (x5_1 : Int).toNat * 10 + 2, none⟩ (.bool ((Int.tmod (wrap64 ((wrap64 (x1_1 + 1)) + 1)) 3) == 0)))) ?hg ?ho ?hn ?hr ?_; (case ho => rfl); (case hg => rfl); (case hn => rfl); (case hr => first | (go_simp; done) | (go_simp; rfl)); intro w22 hw; have hg : w20.grownBy w22 (some go5) := (by rw [hw]; exact HP21.2); have hp_ : Kd.R k26 26 w22 w0.heap.size (fun k_ => (P0_ k_ ∨ w.heap.size ≤ k_)) (.slice (some ⟨go5, 0, none⟩) x0_1.length co16) y161 := (by rw [hw, Ny161.out]; exact HP21.1); clear HP21; have n0_ := Aside0.mk (hp_); have n1_ := Aside0.mk ((by rw [hw]; exact below_set (HB.out) GB5.out : Below w0.heap.size w0 w22)); have n2_ := Aside0.mk (Kept.of_grown (S := (fun k_ => P0_ k_)) hg (by repeat (first | (with_reducible first | exact HK.out | apply Kept.alloc | apply Kept.drewN | apply Kept.drew) | exact HK.out)) (fun k_ e_ => (HO_0.out.1 k_ e_))); clear HO_0; clear HB; clear HK; have HO_0 := n0_; have HB := n1_; have HK := n2_; clear n0_ n1_ n2_; clear hg hw hp_; have p8 : 0 ≤ (x5_1 : Int) := of_decide_eq_true (by first | (with_reducible assumption) | assumption); have q8 : (x5_1 : Int) < ((x0_1.length : Int) : Int) := of_decide_eq_true (by first | (with_reducible assumption) | assumption); obtain ⟨ce8, hcl8, hM8, hcc8, hfr8⟩ := Kd.R_elem HO_0.out z26 (x5_1 : Int) p8 q8; obtain rfl := k26_openM hM8; have hx8_0 : w22.cell? ⟨go5, (x5_1 : Int).toNat * 10, none⟩ = some (.int .i64 ((rd_T26 y161 x5_1).f0)) := hcc8 0 _ rfl; have hx8_1 : w22.cell? ⟨go5, (x5_1 : Int).toNat * 10 + 1, none⟩ = some (.int .i64 ((rd_T26 y161 x5_1).f1)) := hcc8 1 _ rfl; have hx8_2 : w22.cell? ⟨go5, (x5_1 : Int).toNat * 10 + 2, none⟩ = some (.bool ((rd_T26 y161 x5_1).f2)) := hcc8 2 _ rfl; have hx8_3 : w22.cell? ⟨go5, (x5_1 : Int).toNat * 10 + 3, none⟩ = some (.int .i64 ((rd_T26 y161 x5_1).f3)) := hcc8 3 _ rfl; have hx8_4 : w22.cell? ⟨go5, (x5_1 : Int).toNat * 10 + 4, none⟩ = some (.int .i64 ((rd_T26 y161 x5_1).f4)) := hcc8 4 _ rfl; have hx8_5 : w22.cell? ⟨go5, (x5_1 : Int).toNat * 10 + 5, none⟩ = some (.int .i64 ((rd_T26 y161 x5_1).f5)) := hcc8 5 _ rfl; have hx8_6 : w22.cell? ⟨go5, (x5_1 : Int).toNat * 10 + 6, none⟩ = some (.int .i64 ((rd_T26 y161 x5_1).f6)) := hcc8 6 _ rfl; have hx8_7 : w22.cell? ⟨go5, (x5_1 : Int).toNat * 10 + 7, none⟩ = some (.int .i64 ((rd_T26 y161 x5_1).f7)) := hcc8 7 _ rfl; have hx8_8 : w22.cell? ⟨go5, (x5_1 : Int).toNat * 10 + 8, none⟩ = some (.int .i64 ((rd_T26 y161 x5_1).f8)) := hcc8 8 _ rfl; have hx8_9 : w22.cell? ⟨go5, (x5_1 : Int).toNat * 10 + 9, none⟩ = some (.string ((rd_T26 y161 x5_1).f9)) := hcc8 9 _ rfl; have hf8_0 : w22.frozen? ⟨go5, (x5_1 : Int).toNat * 10, none⟩ = false := hfr8 0; have hf8_1 : w22.frozen? ⟨go5, (x5_1 : Int).toNat * 10 + 1, none⟩ = false := hfr8 1; have hf8_2 : w22.frozen? ⟨go5, (x5_1 : Int).toNat * 10 + 2, none⟩ = false := hfr8 2; have hf8_3 : w22.frozen? ⟨go5, (x5_1 : Int).toNat * 10 + 3, none⟩ = false := hfr8 3; have hf8_4 : w22.frozen? ⟨go5, (x5_1 : Int).toNat * 10 + 4, none⟩ = false := hfr8 4; have hf8_5 : w22.frozen? ⟨go5, (x5_1 : Int).toNat * 10 + 5, none⟩ = false := hfr8 5; have hf8_6 : w22.frozen? ⟨go5, (x5_1 : Int).toNat * 10 + 6, none⟩ = false := hfr8 6; have hf8_7 : w22.frozen? ⟨go5, (x5_1 : Int).toNat * 10 + 7, none⟩ = false := hfr8 7; have hf8_8 : w22.frozen? ⟨go5, (x5_1 : Int).toNat * 10 + 8, none⟩ = false := hfr8 8; have hf8_9 : w22.frozen? ⟨go5, (x5_1 : Int).toNat * 10 + 9, none⟩ = false := hfr8 9; clear hcl8 hcc8 hfr8 hM8; replace p8 := eq_true p8; replace q8 := eq_true q8; have HX23 := Aside0.mk (show Kd.R k26 26 w22 w0.heap.size (fun k_ => (P0_ k_ ∨ w.heap.size ≤ k_)) (.slice (some ⟨go5, 0, none⟩) x0_1.length co16) y161 from (by (with_reducible repeat (first | apply Kd.R_alloc | apply Kd.R_drewN | apply Kd.R_drew)); exact HO_0.out)); obtain ⟨ce23, hcl23, hM23, hcc23, hfr23⟩ := Kd.R_elem HX23.out z26 (x5_1 : Int) (of_decide_eq_true (by first | (with_reducible assumption) | assumption)) (by have h_ : (x5_1 : Int) < ((x0_1.length : Int) : Int) := of_decide_eq_true (by first | (with_reducible assumption) | assumption); first | exact h_ | (have e_ := (Kd.R_reads' HO_0.out).1; omega) | simpa using h_); obtain rfl := k26_openM hM23; have HP23 := Kd.R_seg HX23.out (x5_1 : Int) (of_decide_eq_true (by first | (with_reducible assumption) | assumption)) (by have h_ : (x5_1 : Int) < ((x0_1.length : Int) : Int) := of_decide_eq_true (by first | (with_reducible assumption) | assumption); first | exact h_ | (have e_ := (Kd.R_reads' HO_0.out).1; omega) | simpa using h_) (seg := [.int .i64 (wrap64 ((wrap64 ((wrap64 (x1_1 + 1)) + 1)) + 1))]) (j := 3) hcl23 hcc23 (show 4 ≤ 10 from by decide) (x' := (⟨(rd_T26 y161 x5_1).f0, (rd_T26 y161 x5_1).f1, (rd_T26 y161 x5_1).f2, wrap64 ((wrap64 ((wrap64 (x1_1 + 1)) + 1)) + 1), (rd_T26 y161 x5_1).f4, (rd_T26 y161 x5_1).f5, (rd_T26 y161 x5_1).f6, (rd_T26 y161 x5_1).f7, (rd_T26 y161 x5_1).f8, (rd_T26 y161 x5_1).f9⟩ : S26)) (k26_mkM _ _ _ (⟨(rd_T26 y161 x5_1).f0, (rd_T26 y161 x5_1).f1, (rd_T26 y161 x5_1).f2, wrap64 ((wrap64 ((wrap64 (x1_1 + 1)) + 1)) + 1), (rd_T26 y161 x5_1).f4, (rd_T26 y161 x5_1).f5, (rd_T26 y161 x5_1).f6, (rd_T26 y161 x5_1).f7, (rd_T26 y161 x5_1).f8, (rd_T26 y161 x5_1).f9⟩ : S26) ) (fun _ hk => hk); have hx23_3 := hcc23 3 _ rfl; (try simp only [show (k26).sz = 10 from rfl, Nat.mul_one, Nat.add_zero] at hx23_3); have hf23_3 := hfr23 3; (try simp only [show (k26).sz = 10 from rfl, Nat.mul_one, Nat.add_zero] at hf23_3); clear hcl23 hcc23 hfr23 hM23) | ((with_reducible refine gate_store (t := 3) (p := 39) rfl ?_); refine store_event (t := 3) (p := 39) (v := ?vo_w24) (w1 := (w22.setCell ⟨go5, (x5_1 : Int).toNat * 10 + 3, none⟩ (.int .i64 (wrap64 ((wrap64 ((wrap64 (x1_1 + 1)) + 1)) + 1))))) ?hg ?ho ?hn ?hr ?_; (case ho => rfl); (case hg => rfl); (case hn => rfl); (case hr => first | (go_simp; done) | (go_simp; rfl)); intro w24 hw; have hg : w22.grownBy w24 (some go5) := (by rw [hw]; exact HP23.2); have hp_ : Kd.R k26 26 w24 w0.heap.size (fun k_ => (P0_ k_ ∨ w.heap.size ≤ k_)) (.slice (some ⟨go5, 0, none⟩) x0_1.length co16) y162 := (by rw [hw, Ny162.out]; exact HP23.1); clear HP23; have n0_ := Aside0.mk (hp_); have n1_ := Aside0.mk ((by rw [hw]; exact below_set (HB.out) GB5.out : Below w0.heap.size w0 w24)); have n2_ := Aside0.mk (Kept.of_grown (S := (fun k_ => P0_ k_)) hg (by repeat (first | (with_reducible first | exact HK.out | apply Kept.alloc | apply Kept.drewN | apply Kept.drew) | exact HK.out)) (fun k_ e_ => (HO_0.out.1 k_ e_))); clear HO_0; clear HB; clear HK; have HO_0 := n0_; have HB := n1_; have HK := n2_; clear n0_ n1_ n2_; clear hg hw hp_; have p9 : 0 ≤ (x5_1 : Int) := of_decide_eq_true (by first | (with_reducible assumption) | assumption); have q9 : (x5_1 : Int) < ((x0_1.length : Int) : Int) := of_decide_eq_true (by first | (with_reducible assumption) | assumption); obtain ⟨ce9, hcl9, hM9, hcc9, hfr9⟩ := Kd.R_elem HO_0.out z26 (x5_1 : Int) p9 q9; obtain rfl := k26_openM hM9; have hx9_0 : w24.cell? ⟨go5, (x5_1 : Int).toNat * 10, none⟩ = some (.int .i64 ((rd_T26 y162 x5_1).f0)) := hcc9 0 _ rfl; have hx9_1 : w24.cell? ⟨go5, (x5_1 : Int).toNat * 10 + 1, none⟩ = some (.int .i64 ((rd_T26 y162 x5_1).f1)) := hcc9 1 _ rfl; have hx9_2 : w24.cell? ⟨go5, (x5_1 : Int).toNat * 10 + 2, none⟩ = some (.bool ((rd_T26 y162 x5_1).f2)) := hcc9 2 _ rfl; have hx9_3 : w24.cell? ⟨go5, (x5_1 : Int).toNat * 10 + 3, none⟩ = some (.int .i64 ((rd_T26 y162 x5_1).f3)) := hcc9 3 _ rfl; have hx9_4 : w24.cell? ⟨go5, (x5_1 : Int).toNat * 10 + 4, none⟩ = some (.int .i64 ((rd_T26 y162 x5_1).f4)) := hcc9 4 _ rfl; have hx9_5 : w24.cell? ⟨go5, (x5_1 : Int).toNat * 10 + 5, none⟩ = some (.int .i64 ((rd_T26 y162 x5_1).f5)) := hcc9 5 _ rfl; have hx9_6 : w24.cell? ⟨go5, (x5_1 : Int).toNat * 10 + 6, none⟩ = some (.int .i64 ((rd_T26 y162 x5_1).f6)) := hcc9 6 _ rfl; have hx9_7 : w24.cell? ⟨go5, (x5_1 : Int).toNat * 10 + 7, none⟩ = some (.int .i64 ((rd_T26 y162 x5_1).f7)) := hcc9 7 _ rfl; have hx9_8 : w24.cell? ⟨go5, (x5_1 : Int).toNat * 10 + 8, none⟩ = some (.int .i64 ((rd_T26 y162 x5_1).f8)) := hcc9 8 _ rfl; have hx9_9 : w24.cell? ⟨go5, (x5_1 : Int).toNat * 10 + 9, none⟩ = some (.string ((rd_T26 y162 x5_1).f9)) := hcc9 9 _ rfl; have hf9_0 : w24.frozen? ⟨go5, (x5_1 : Int).toNat * 10, none⟩ = false := hfr9 0; have hf9_1 : w24.frozen? ⟨go5, (x5_1 : Int).toNat * 10 + 1, none⟩ = false := hfr9 1; have hf9_2 : w24.frozen? ⟨go5, (x5_1 : Int).toNat * 10 + 2, none⟩ = false := hfr9 2; have hf9_3 : w24.frozen? ⟨go5, (x5_1 : Int).toNat * 10 + 3, none⟩ = false := hfr9 3; have hf9_4 : w24.frozen? ⟨go5, (x5_1 : Int).toNat * 10 + 4, none⟩ = false := hfr9 4; have hf9_5 : w24.frozen? ⟨go5, (x5_1 : Int).toNat * 10 + 5, none⟩ = false := hfr9 5; have hf9_6 : w24.frozen? ⟨go5, (x5_1 : Int).toNat * 10 + 6, none⟩ = false := hfr9 6; have hf9_7 : w24.frozen? ⟨go5, (x5_1 : Int).toNat * 10 + 7, none⟩ = false := hfr9 7; have hf9_8 : w24.frozen? ⟨go5, (x5_1 : Int).toNat * 10 + 8, none⟩ = false := hfr9 8; have hf9_9 : w24.frozen? ⟨go5, (x5_1 : Int).toNat * 10 + 9, none⟩ = false := hfr9 9; clear hcl9 hcc9 hfr9 hM9; replace p9 := eq_true p9; replace q9 := eq_true q9; have HX25 := Aside0.mk (show Kd.R k26 26 w24 w0.heap.size (fun k_ => (P0_ k_ ∨ w.heap.size ≤ k_)) (.slice (some ⟨go5, 0, none⟩) x0_1.length co16) y162 from (by (with_reducible repeat (first | apply Kd.R_alloc | apply Kd.R_drewN | apply Kd.R_drew)); exact HO_0.out)); obtain ⟨ce25, hcl25, hM25, hcc25, hfr25⟩ := Kd.R_elem HX25.out z26 (x5_1 : Int) (of_decide_eq_true (by first | (with_reducible assumption) | assumption)) (by have h_ : (x5_1 : Int) < ((x0_1.length : Int) : Int) := of_decide_eq_true (by first | (with_reducible assumption) | assumption); first | exact h_ | (have e_ := (Kd.R_reads' HO_0.out).1; omega) | simpa using h_); obtain rfl := k26_openM hM25; have HP25 := Kd.R_seg HX25.out (x5_1 : Int) (of_decide_eq_true (by first | (with_reducible assumption) | assumption)) (by have h_ : (x5_1 : Int) < ((x0_1.length : Int) : Int) := of_decide_eq_true (by first | (with_reducible assumption) | assumption); first | exact h_ | (have e_ := (Kd.R_reads' HO_0.out).1; omega) | simpa using h_) (seg := [.int .i64 (wrap64 ((wrap64 ((wrap64 ((wrap64 (x1_1 + 1)) + 1)) + 1)) + 1))]) (j := 4) hcl25 hcc25 (show 5 ≤ 10 from by decide) (x' := (⟨(rd_T26 y162 x5_1).f0, (rd_T26 y162 x5_1).f1, (rd_T26 y162 x5_1).f2, (rd_T26 y162 x5_1).f3, wrap64 ((wrap64 ((wrap64 ((wrap64 (x1_1 + 1)) + 1)) + 1)) + 1), (rd_T26 y162 x5_1).f5, (rd_T26 y162 x5_1).f6, (rd_T26 y162 x5_1).f7, (rd_T26 y162 x5_1).f8, (rd_T26 y162 x5_1).f9⟩ : S26)) (k26_mkM _ _ _ (⟨(rd_T26 y162 x5_1).f0, (rd_T26 y162 x5_1).f1, (rd_T26 y162 x5_1).f2, (rd_T26 y162 x5_1).f3, wrap64 ((wrap64 ((wrap64 ((wrap64 (x1_1 + 1)) + 1)) + 1)) + 1), (rd_T26 y162 x5_1).f5, (rd_T26 y162 x5_1).f6, (rd_T26 y162 x5_1).f7, (rd_T26 y162 x5_1).f8, (rd_T26 y162 x5_1).f9⟩ : S26) ) (fun _ hk => hk); have hx25_4 := hcc25 4 _ rfl; (try simp only [show (k26).sz = 10 from rfl, Nat.mul_one, Nat.add_zero] at hx25_4); have hf25_4 := hfr25 4; (try simp only [show (k26).sz = 10 from rfl, Nat.mul_one, Nat.add_zero] at hf25_4); clear hcl25 hcc25 hfr25 hM25) | ((with_reducible refine gate_store (t := 3) (p := 46) rfl ?_); refine store_event (t := 3) (p := 46) (v := ?vo_w26) (w1 := (w24.setCell ⟨go5, (x5_1 : Int).toNat * 10 + 4, none⟩ (.int .i64 (wrap64 ((wrap64 ((wrap64 ((wrap64 (x1_1 + 1)) + 1)) + 1)) + 1))))) ?hg ?ho ?hn ?hr ?_; (case ho => rfl); (case hg => rfl); (case hn => rfl); (case hr => first | (go_simp; done) | (go_simp; rfl)); intro w26 hw; have hg : w24.grownBy w26 (some go5) := (by rw [hw]; exact HP25.2); have hp_ : Kd.R k26 26 w26 w0.heap.size (fun k_ => (P0_ k_ ∨ w.heap.size ≤ k_)) (.slice (some ⟨go5, 0, none⟩) x0_1.length co16) y163 := (by rw [hw, Ny163.out]; exact HP25.1); clear HP25; have n0_ := Aside0.mk (hp_); have n1_ := Aside0.mk ((by rw [hw]; exact below_set (HB.out) GB5.out : Below w0.heap.size w0 w26)); have n2_ := Aside0.mk (Kept.of_grown (S := (fun k_ => P0_ k_)) hg (by repeat (first | (with_reducible first | exact HK.out | apply Kept.alloc | apply Kept.drewN | apply Kept.drew) | exact HK.out)) (fun k_ e_ => (HO_0.out.1 k_ e_))); clear HO_0; clear HB; clear HK; have HO_0 := n0_; have HB := n1_; have HK := n2_; clear n0_ n1_ n2_; clear hg hw hp_; have p10 : 0 ≤ (x5_1 : Int) := of_decide_eq_true (by first | (with_reducible assumption) | assumption); have q10 : (x5_1 : Int) < ((x0_1.length : Int) : Int) := of_decide_eq_true (by first | (with_reducible assumption) | assumption); obtain ⟨ce10, hcl10, hM10, hcc10, hfr10⟩ := Kd.R_elem HO_0.out z26 (x5_1 : Int) p10 q10; obtain rfl := k26_openM hM10; have hx10_0 : w26.cell? ⟨go5, (x5_1 : Int).toNat * 10, none⟩ = some (.int .i64 ((rd_T26 y163 x5_1).f0)) := hcc10 0 _ rfl; have hx10_1 : w26.cell? ⟨go5, (x5_1 : Int).toNat * 10 + 1, none⟩ = some (.int .i64 ((rd_T26 y163 x5_1).f1)) := hcc10 1 _ rfl; have hx10_2 : w26.cell? ⟨go5, (x5_1 : Int).toNat * 10 + 2, none⟩ = some (.bool ((rd_T26 y163 x5_1).f2)) := hcc10 2 _ rfl; have hx10_3 : w26.cell? ⟨go5, (x5_1 : Int).toNat * 10 + 3, none⟩ = some (.int .i64 ((rd_T26 y163 x5_1).f3)) := hcc10 3 _ rfl; have hx10_4 : w26.cell? ⟨go5, (x5_1 : Int).toNat * 10 + 4, none⟩ = some (.int .i64 ((rd_T26 y163 x5_1).f4)) := hcc10 4 _ rfl; have hx10_5 : w26.cell? ⟨go5, (x5_1 : Int).toNat * 10 + 5, none⟩ = some (.int .i64 ((rd_T26 y163 x5_1).f5)) := hcc10 5 _ rfl; have hx10_6 : w26.cell? ⟨go5, (x5_1 : Int).toNat * 10 + 6, none⟩ = some (.int .i64 ((rd_T26 y163 x5_1).f6)) := hcc10 6 _ rfl; have hx10_7 : w26.cell? ⟨go5, (x5_1 : Int).toNat * 10 + 7, none⟩ = some (.int .i64 ((rd_T26 y163 x5_1).f7)) := hcc10 7 _ rfl; have hx10_8 : w26.cell? ⟨go5, (x5_1 : Int).toNat * 10 + 8, none⟩ = some (.int .i64 ((rd_T26 y163 x5_1).f8)) := hcc10 8 _ rfl; have hx10_9 : w26.cell? ⟨go5, (x5_1 : Int).toNat * 10 + 9, none⟩ = some (.string ((rd_T26 y163 x5_1).f9)) := hcc10 9 _ rfl; have hf10_0 : w26.frozen? ⟨go5, (x5_1 : Int).toNat * 10, none⟩ = false := hfr10 0; have hf10_1 : w26.frozen? ⟨go5, (x5_1 : Int).toNat * 10 + 1, none⟩ = false := hfr10 1; have hf10_2 : w26.frozen? ⟨go5, (x5_1 : Int).toNat * 10 + 2, none⟩ = false := hfr10 2; have hf10_3 : w26.frozen? ⟨go5, (x5_1 : Int).toNat * 10 + 3, none⟩ = false := hfr10 3; have hf10_4 : w26.frozen? ⟨go5, (x5_1 : Int).toNat * 10 + 4, none⟩ = false := hfr10 4; have hf10_5 : w26.frozen? ⟨go5, (x5_1 : Int).toNat * 10 + 5, none⟩ = false := hfr10 5; have hf10_6 : w26.frozen? ⟨go5, (x5_1 : Int).toNat * 10 + 6, none⟩ = false := hfr10 6; have hf10_7 : w26.frozen? ⟨go5, (x5_1 : Int).toNat * 10 + 7, none⟩ = false := hfr10 7; have hf10_8 : w26.frozen? ⟨go5, (x5_1 : Int).toNat * 10 + 8, none⟩ = false := hfr10 8; have hf10_9 : w26.frozen? ⟨go5, (x5_1 : Int).toNat * 10 + 9, none⟩ = false := hfr10 9; clear hcl10 hcc10 hfr10 hM10; replace p10 := eq_true p10; replace q10 := eq_true q10; have HX27 := Aside0.mk (show Kd.R k26 26 w26 w0.heap.size (fun k_ => (P0_ k_ ∨ w.heap.size ≤ k_)) (.slice (some ⟨go5, 0, none⟩) x0_1.length co16) y163 from (by (with_reducible repeat (first | apply Kd.R_alloc | apply Kd.R_drewN | apply Kd.R_drew)); exact HO_0.out)); obtain ⟨ce27, hcl27, hM27, hcc27, hfr27⟩ := Kd.R_elem HX27.out z26 (x5_1 : Int) (of_decide_eq_true (by first | (with_reducible assumption) | assumption)) (by have h_ : (x5_1 : Int) < ((x0_1.length : Int) : Int) := of_decide_eq_true (by first | (with_reducible assumption) | assumption); first | exact h_ | (have e_ := (Kd.R_reads' HO_0.out).1; omega) | simpa using h_); obtain rfl := k26_openM hM27; have HP27 := Kd.R_seg HX27.out (x5_1 : Int) (of_decide_eq_true (by first | (with_reducible assumption) | assumption)) (by have h_ : (x5_1 : Int) < ((x0_1.length : Int) : Int) := of_decide_eq_true (by first | (with_reducible assumption) | assumption); first | exact h_ | (have e_ := (Kd.R_reads' HO_0.out).1; omega) | simpa using h_) (seg := [.int .i64 (wrap64 ((wrap64 ((wrap64 ((wrap64 ((wrap64 (x1_1 + 1)) + 1)) + 1)) + 1)) + 1))]) (j := 5) hcl27 hcc27 (show 6 ≤ 10 from by decide) (x' := (⟨(rd_T26 y163 x5_1).f0, (rd_T26 y163 x5_1).f1, (rd_T26 y163 x5_1).f2, (rd_T26 y163 x5_1).f3, (rd_T26 y163 x5_1).f4, wrap64 ((wrap64 ((wrap64 ((wrap64 ((wrap64 (x1_1 + 1)) + 1)) + 1)) + 1)) + 1), (rd_T26 y163 x5_1).f6, (rd_T26 y163 x5_1).f7, (rd_T26 y163 x5_1).f8, (rd_T26 y163 x5_1).f9⟩ : S26)) (k26_mkM _ _ _ (⟨(rd_T26 y163 x5_1).f0, (rd_T26 y163 x5_1).f1, (rd_T26 y163 x5_1).f2, (rd_T26 y163 x5_1).f3, (rd_T26 y163 x5_1).f4, wrap64 ((wrap64 ((wrap64 ((wrap64 ((wrap64 (x1_1 + 1)) + 1)) + 1)) + 1)) + 1), (rd_T26 y163 x5_1).f6, (rd_T26 y163 x5_1).f7, (rd_T26 y163 x5_1).f8, (rd_T26 y163 x5_1).f9⟩ : S26) ) (fun _ hk => hk); have hx27_5 := hcc27 5 _ rfl; (try simp only [show (k26).sz = 10 from rfl, Nat.mul_one, Nat.add_zero] at hx27_5); have hf27_5 := hfr27 5; (try simp only [show (k26).sz = 10 from rfl, Nat.mul_one, Nat.add_zero] at hf27_5); clear hcl27 hcc27 hfr27 hM27) | ((with_reducible refine gate_store (t := 3) (p := 53) rfl ?_); refine store_event (t := 3) (p := 53) (v := ?vo_w28) (w1 := (w26.setCell ⟨go5, (x5_1 : Int).toNat * 10 + 5, none⟩ (.int .i64 (wrap64 ((wrap64 ((wrap64 ((wrap64 ((wrap64 (x1_1 + 1)) + 1)) + 1)) + 1)) + 1))))) ?hg ?ho ?hn ?hr ?_; (case ho => rfl); (case hg => rfl); (case hn => rfl); (case hr => first | (go_simp; done) | (go_simp; rfl)); intro w28 hw; have hg : w26.grownBy w28 (some go5) := (by rw [hw]; exact HP27.2); have hp_ : Kd.R k26 26 w28 w0.heap.size (fun k_ => (P0_ k_ ∨ w.heap.size ≤ k_)) (.slice (some ⟨go5, 0, none⟩) x0_1.length co16) y164 := (by rw [hw, Ny164.out]; exact HP27.1); clear HP27; have n0_ := Aside0.mk (hp_); have n1_ := Aside0.mk ((by rw [hw]; exact below_set (HB.out) GB5.out : Below w0.heap.size w0 w28)); have n2_ := Aside0.mk (Kept.of_grown (S := (fun k_ => P0_ k_)) hg (by repeat (first | (with_reducible first | exact HK.out | apply Kept.alloc | apply Kept.drewN | apply Kept.drew) | exact HK.out)) (fun k_ e_ => (HO_0.out.1 k_ e_))); clear HO_0; clear HB; clear HK; have HO_0 := n0_; have HB := n1_; have HK := n2_; clear n0_ n1_ n2_; clear hg hw hp_; have p11 : 0 ≤ (x5_1 : Int) := of_decide_eq_true (by first | (with_reducible assumption) | assumption); have q11 : (x5_1 : Int) < ((x0_1.length : Int) : Int) := of_decide_eq_true (by first | (with_reducible assumption) | assumption); obtain ⟨ce11, hcl11, hM11, hcc11, hfr11⟩ := Kd.R_elem HO_0.out z26 (x5_1 : Int) p11 q11; obtain rfl := k26_openM hM11; have hx11_0 : w28.cell? ⟨go5, (x5_1 : Int).toNat * 10, none⟩ = some (.int .i64 ((rd_T26 y164 x5_1).f0)) := hcc11 0 _ rfl; have hx11_1 : w28.cell? ⟨go5, (x5_1 : Int).toNat * 10 + 1, none⟩ = some (.int .i64 ((rd_T26 y164 x5_1).f1)) := hcc11 1 _ rfl; have hx11_2 : w28.cell? ⟨go5, (x5_1 : Int).toNat * 10 + 2, none⟩ = some (.bool ((rd_T26 y164 x5_1).f2)) := hcc11 2 _ rfl; have hx11_3 : w28.cell? ⟨go5, (x5_1 : Int).toNat * 10 + 3, none⟩ = some (.int .i64 ((rd_T26 y164 x5_1).f3)) := hcc11 3 _ rfl; have hx11_4 : w28.cell? ⟨go5, (x5_1 : Int).toNat * 10 + 4, none⟩ = some (.int .i64 ((rd_T26 y164 x5_1).f4)) := hcc11 4 _ rfl; have hx11_5 : w28.cell? ⟨go5, (x5_1 : Int).toNat * 10 + 5, none⟩ = some (.int .i64 ((rd_T26 y164 x5_1).f5)) := hcc11 5 _ rfl; have hx11_6 : w28.cell? ⟨go5, (x5_1 : Int).toNat * 10 + 6, none⟩ = some (.int .i64 ((rd_T26 y164 x5_1).f6)) := hcc11 6 _ rfl; have hx11_7 : w28.cell? ⟨go5, (x5_1 : Int).toNat * 10 + 7, none⟩ = some (.int .i64 ((rd_T26 y164 x5_1).f7)) := hcc11 7 _ rfl; have hx11_8 : w28.cell? ⟨go5, (x5_1 : Int).toNat * 10 + 8, none⟩ = some (.int .i64 ((rd_T26 y164 x5_1).f8)) := hcc11 8 _ rfl; have hx11_9 : w28.cell? ⟨go5, (x5_1 : Int).toNat * 10 + 9, none⟩ = some (.string ((rd_T26 y164 x5_1).f9)) := hcc11 9 _ rfl; have hf11_0 : w28.frozen? ⟨go5, (x5_1 : Int).toNat * 10, none⟩ = false := hfr11 0; have hf11_1 : w28.frozen? ⟨go5, (x5_1 : Int).toNat * 10 + 1, none⟩ = false := hfr11 1; have hf11_2 : w28.frozen? ⟨go5, (x5_1 : Int).toNat * 10 + 2, none⟩ = false := hfr11 2; have hf11_3 : w28.frozen? ⟨go5, (x5_1 : Int).toNat * 10 + 3, none⟩ = false := hfr11 3; have hf11_4 : w28.frozen? ⟨go5, (x5_1 : Int).toNat * 10 + 4, none⟩ = false := hfr11 4; have hf11_5 : w28.frozen? ⟨go5, (x5_1 : Int).toNat * 10 + 5, none⟩ = false := hfr11 5; have hf11_6 : w28.frozen? ⟨go5, (x5_1 : Int).toNat * 10 + 6, none⟩ = false := hfr11 6; have hf11_7 : w28.frozen? ⟨go5, (x5_1 : Int).toNat * 10 + 7, none⟩ = false := hfr11 7; have hf11_8 : w28.frozen? ⟨go5, (x5_1 : Int).toNat * 10 + 8, none⟩ = false := hfr11 8; have hf11_9 : w28.frozen? ⟨go5, (x5_1 : Int).toNat * 10 + 9, none⟩ = false := hfr11 9; clear hcl11 hcc11 hfr11 hM11; replace p11 := eq_true p11; replace q11 := eq_true q11; have HX29 := Aside0.mk (show Kd.R k26 26 w28 w0.heap.size (fun k_ => (P0_ k_ ∨ w.heap.size ≤ k_)) (.slice (some ⟨go5, 0, none⟩) x0_1.length co16) y164 from (by (with_reducible repeat (first | apply Kd.R_alloc | apply Kd.R_drewN | apply Kd.R_drew)); exact HO_0.out)); obtain ⟨ce29, hcl29, hM29, hcc29, hfr29⟩ := Kd.R_elem HX29.out z26 (x5_1 : Int) (of_decide_eq_true (by first | (with_reducible assumption) | assumption)) (by have h_ : (x5_1 : Int) < ((x0_1.length : Int) : Int) := of_decide_eq_true (by first | (with_reducible assumption) | assumption); first | exact h_ | (have e_ := (Kd.R_reads' HO_0.out).1; omega) | simpa using h_); obtain rfl := k26_openM hM29; have HP29 := Kd.R_seg HX29.out (x5_1 : Int) (of_decide_eq_true (by first | (with_reducible assumption) | assumption)) (by have h_ : (x5_1 : Int) < ((x0_1.length : Int) : Int) := of_decide_eq_true (by first | (with_reducible assumption) | assumption); first | exact h_ | (have e_ := (Kd.R_reads' HO_0.out).1; omega) | simpa using h_) (seg := [.int .i64 (wrap64 ((wrap64 ((wrap64 ((wrap64 ((wrap64 ((wrap64 (x1_1 + 1)) + 1)) + 1)) + 1)) + 1)) + 1))]) (j := 6) hcl29 hcc29 (show 7 ≤ 10 from by decide) (x' := (⟨(rd_T26 y164 x5_1).f0, (rd_T26 y164 x5_1).f1, (rd_T26 y164 x5_1).f2, (rd_T26 y164 x5_1).f3, (rd_T26 y164 x5_1).f4, (rd_T26 y164 x5_1).f5, wrap64 ((wrap64 ((wrap64 ((wrap64 ((wrap64 ((wrap64 (x1_1 + 1)) + 1)) + 1)) + 1)) + 1)) + 1), (rd_T26 y164 x5_1).f7, (rd_T26 y164 x5_1).f8, (rd_T26 y164 x5_1).f9⟩ : S26)) (k26_mkM _ _ _ (⟨(rd_T26 y164 x5_1).f0, (rd_T26 y164 x5_1).f1, (rd_T26 y164 x5_1).f2, (rd_T26 y164 x5_1).f3, (rd_T26 y164 x5_1).f4, (rd_T26 y164 x5_1).f5, wrap64 ((wrap64 ((wrap64 ((wrap64 ((wrap64 ((wrap64 (x1_1 + 1)) + 1)) + 1)) + 1)) + 1)) + 1), (rd_T26 y164 x5_1).f7, (rd_T26 y164 x5_1).f8, (rd_T26 y164 x5_1).f9⟩ : S26) ) (fun _ hk => hk); have hx29_6 := hcc29 6 _ rfl; (try simp only [show (k26).sz = 10 from rfl, Nat.mul_one, Nat.add_zero] at hx29_6); have hf29_6 := hfr29 6; (try simp only [show (k26).sz = 10 from rfl, Nat.mul_one, Nat.add_zero] at hf29_6); clear hcl29 hcc29 hfr29 hM29) | ((with_reducible refine gate_store (t := 3) (p := 60) rfl ?_); refine store_event (t := 3) (p := 60) (v := ?vo_w30) (w1 := (w28.setCell ⟨go5, (x5_1 : Int).toNat * 10 + 6, none⟩ (.int .i64 (wrap64 ((wrap64 ((wrap64 ((wrap64 ((wrap64 ((wrap64 (x1_1 + 1)) + 1)) + 1)) + 1)) + 1)) + 1))))) ?hg ?ho ?hn ?hr ?_; (case ho => rfl); (case hg => rfl); (case hn => rfl); (case hr => first | (go_simp; done) | (go_simp; rfl)); intro w30 hw; have hg : w28.grownBy w30 (some go5) := (by rw [hw]; exact HP29.2); have hp_ : Kd.R k26 26 w30 w0.heap.size (fun k_ => (P0_ k_ ∨ w.heap.size ≤ k_)) (.slice (some ⟨go5, 0, none⟩) x0_1.length co16) y165 := (by rw [hw, Ny165.out]; exact HP29.1); clear HP29; have n0_ := Aside0.mk (hp_); have n1_ := Aside0.mk ((by rw [hw]; exact below_set (HB.out) GB5.out : Below w0.heap.size w0 w30)); have n2_ := Aside0.mk (Kept.of_grown (S := (fun k_ => P0_ k_)) hg (by repeat (first | (with_reducible first | exact HK.out | apply Kept.alloc | apply Kept.drewN | apply Kept.drew) | exact HK.out)) (fun k_ e_ => (HO_0.out.1 k_ e_))); clear HO_0; clear HB; clear HK; have HO_0 := n0_; have HB := n1_; have HK := n2_; clear n0_ n1_ n2_; clear hg hw hp_; have p12 : 0 ≤ (x5_1 : Int) := of_decide_eq_true (by first | (with_reducible assumption) | assumption); have q12 : (x5_1 : Int) < ((x0_1.length : Int) : Int) := of_decide_eq_true (by first | (with_reducible assumption) | assumption); obtain ⟨ce12, hcl12, hM12, hcc12, hfr12⟩ := Kd.R_elem HO_0.out z26 (x5_1 : Int) p12 q12; obtain rfl := k26_openM hM12; have hx12_0 : w30.cell? ⟨go5, (x5_1 : Int).toNat * 10, none⟩ = some (.int .i64 ((rd_T26 y165 x5_1).f0)) := hcc12 0 _ rfl; have hx12_1 : w30.cell? ⟨go5, (x5_1 : Int).toNat * 10 + 1, none⟩ = some (.int .i64 ((rd_T26 y165 x5_1).f1)) := hcc12 1 _ rfl; have hx12_2 : w30.cell? ⟨go5, (x5_1 : Int).toNat * 10 + 2, none⟩ = some (.bool ((rd_T26 y165 x5_1).f2)) := hcc12 2 _ rfl; have hx12_3 : w30.cell? ⟨go5, (x5_1 : Int).toNat * 10 + 3, none⟩ = some (.int .i64 ((rd_T26 y165 x5_1).f3)) := hcc12 3 _ rfl; have hx12_4 : w30.cell? ⟨go5, (x5_1 : Int).toNat * 10 + 4, none⟩ = some (.int .i64 ((rd_T26 y165 x5_1).f4)) := hcc12 4 _ rfl; have hx12_5 : w30.cell? ⟨go5, (x5_1 : Int).toNat * 10 + 5, none⟩ = some (.int .i64 ((rd_T26 y165 x5_1).f5)) := hcc12 5 _ rfl; have hx12_6 : w30.cell? ⟨go5, (x5_1 : Int).toNat * 10 + 6, none⟩ = some (.int .i64 ((rd_T26 y165 x5_1).f6)) := hcc12 6 _ rfl; have hx12_7 : w30.cell? ⟨go5, (x5_1 : Int).toNat * 10 + 7, none⟩ = some (.int .i64 ((rd_T26 y165 x5_1).f7)) := hcc12 7 _ rfl; have hx12_8 : w30.cell? ⟨go5, (x5_1 : Int).toNat * 10 + 8, none⟩ = some (.int .i64 ((rd_T26 y165 x5_1).f8)) := hcc12 8 _ rfl; have hx12_9 : w30.cell? ⟨go5, (x5_1 : Int).toNat * 10 + 9, none⟩ = some (.string ((rd_T26 y165 x5_1).f9)) := hcc12 9 _ rfl; have hf12_0 : w30.frozen? ⟨go5, (x5_1 : Int).toNat * 10, none⟩ = false := hfr12 0; have hf12_1 : w30.frozen? ⟨go5, (x5_1 : Int).toNat * 10 + 1, none⟩ = false := hfr12 1; have hf12_2 : w30.frozen? ⟨go5, (x5_1 : Int).toNat * 10 + 2, none⟩ = false := hfr12 2; have hf12_3 : w30.frozen? ⟨go5, (x5_1 : Int).toNat * 10 + 3, none⟩ = false := hfr12 3; have hf12_4 : w30.frozen? ⟨go5, (x5_1 : Int).toNat * 10 + 4, none⟩ = false := hfr12 4; have hf12_5 : w30.frozen? ⟨go5, (x5_1 : Int).toNat * 10 + 5, none⟩ = false := hfr12 5; have hf12_6 : w30.frozen? ⟨go5, (x5_1 : Int).toNat * 10 + 6, none⟩ = false := hfr12 6; have hf12_7 : w30.frozen? ⟨go5, (x5_1 : Int).toNat * 10 + 7, none⟩ = false := hfr12 7; have hf12_8 : w30.frozen? ⟨go5, (x5_1 : Int).toNat * 10 + 8, none⟩ = false := hfr12 8; have hf12_9 : w30.frozen? ⟨go5, (x5_1 : Int).toNat * 10 + 9, none⟩ = false := hfr12 9; clear hcl12 hcc12 hfr12 hM12; replace p12 := eq_true p12; replace q12 := eq_true q12; have HX31 := Aside0.mk (show Kd.R k26 26 w30 w0.heap.size (fun k_ => (P0_ k_ ∨ w.heap.size ≤ k_)) (.slice (some ⟨go5, 0, none⟩) x0_1.length co16) y165 from (by (with_reducible repeat (first | apply Kd.R_alloc | apply Kd.R_drewN | apply Kd.R_drew)); exact HO_0.out)); obtain ⟨ce31, hcl31, hM31, hcc31, hfr31⟩ := Kd.R_elem HX31.out z26 (x5_1 : Int) (of_decide_eq_true (by first | (with_reducible assumption) | assumption)) (by have h_ : (x5_1 : Int) < ((x0_1.length : Int) : Int) := of_decide_eq_true (by first | (with_reducible assumption) | assumption); first | exact h_ | (have e_ := (Kd.R_reads' HO_0.out).1; omega) | simpa using h_); obtain rfl := k26_openM hM31; have HP31 := Kd.R_seg HX31.out (x5_1 : Int) (of_decide_eq_true (by first | (with_reducible assumption) | assumption)) (by have h_ : (x5_1 : Int) < ((x0_1.length : Int) : Int) := of_decide_eq_true (by first | (with_reducible assumption) | assumption); first | exact h_ | (have e_ := (Kd.R_reads' HO_0.out).1; omega) | simpa using h_) (seg := [.int .i64 (wrap64 ((wrap64 ((wrap64 ((wrap64 ((wrap64 ((wrap64 ((wrap64 (x1_1 + 1)) + 1)) + 1)) + 1)) + 1)) + 1)) + 1))]) (j := 7) hcl31 hcc31 (show 8 ≤ 10 from by decide) (x' := (⟨(rd_T26 y165 x5_1).f0, (rd_T26 y165 x5_1).f1, (rd_T26 y165 x5_1).f2, (rd_T26 y165 x5_1).f3, (rd_T26 y165 x5_1).f4, (rd_T26 y165 x5_1).f5, (rd_T26 y165 x5_1).f6, wrap64 ((wrap64 ((wrap64 ((wrap64 ((wrap64 ((wrap64 ((wrap64 (x1_1 + 1)) + 1)) + 1)) + 1)) + 1)) + 1)) + 1), (rd_T26 y165 x5_1).f8, (rd_T26 y165 x5_1).f9⟩ : S26)) (k26_mkM _ _ _ (⟨(rd_T26 y165 x5_1).f0, (rd_T26 y165 x5_1).f1, (rd_T26 y165 x5_1).f2, (rd_T26 y165 x5_1).f3, (rd_T26 y165 x5_1).f4, (rd_T26 y165 x5_1).f5, (rd_T26 y165 x5_1).f6, wrap64 ((wrap64 ((wrap64 ((wrap64 ((wrap64 ((wrap64 ((wrap64 (x1_1 + 1)) + 1)) + 1)) + 1)) + 1)) + 1)) + 1), (rd_T26 y165 x5_1).f8, (rd_T26 y165 x5_1).f9⟩ : S26) ) (fun _ hk => hk); have hx31_7 := hcc31 7 _ rfl; (try simp only [show (k26).sz = 10 from rfl, Nat.mul_one, Nat.add_zero] at hx31_7); have hf31_7 := hfr31 7; (try simp only [show (k26).sz = 10 from rfl, Nat.mul_one, Nat.add_zero] at hf31_7); clear hcl31 hcc31 hfr31 hM31) | ((with_reducible refine gate_store (t := 3) (p := 67) rfl ?_); refine store_event (t := 3) (p := 67) (v := ?vo_w32) (w1 := (w30.setCell ⟨go5, (x5_1 : Int).toNat * 10 + 7, none⟩ (.int .i64 (wrap64 ((wrap64 ((wrap64 ((wrap64 ((wrap64 ((wrap64 ((wrap64 (x1_1 + 1)) + 1)) + 1)) + 1)) + 1)) + 1)) + 1))))) ?hg ?ho ?hn ?hr ?_; (case ho => rfl); (case hg => rfl); (case hn => rfl); (case hr => first | (go_simp; done) | (go_simp; rfl)); intro w32 hw; have hg : w30.grownBy w32 (some go5) := (by rw [hw]; exact HP31.2); have hp_ : Kd.R k26 26 w32 w0.heap.size (fun k_ => (P0_ k_ ∨ w.heap.size ≤ k_)) (.slice (some ⟨go5, 0, none⟩) x0_1.length co16) y166 := (by rw [hw, Ny166.out]; exact HP31.1); clear HP31; have n0_ := Aside0.mk (hp_); have n1_ := Aside0.mk ((by rw [hw]; exact below_set (HB.out) GB5.out : Below w0.heap.size w0 w32)); have n2_ := Aside0.mk (Kept.of_grown (S := (fun k_ => P0_ k_)) hg (by repeat (first | (with_reducible first | exact HK.out | apply Kept.alloc | apply Kept.drewN | apply Kept.drew) | exact HK.out)) (fun k_ e_ => (HO_0.out.1 k_ e_))); clear HO_0; clear HB; clear HK; have HO_0 := n0_; have HB := n1_; have HK := n2_; clear n0_ n1_ n2_; clear hg hw hp_; have p13 : 0 ≤ (x5_1 : Int) := of_decide_eq_true (by first | (with_reducible assumption) | assumption); have q13 : (x5_1 : Int) < ((x0_1.length : Int) : Int) := of_decide_eq_true (by first | (with_reducible assumption) | assumption); obtain ⟨ce13, hcl13, hM13, hcc13, hfr13⟩ := Kd.R_elem HO_0.out z26 (x5_1 : Int) p13 q13; obtain rfl := k26_openM hM13; have hx13_0 : w32.cell? ⟨go5, (x5_1 : Int).toNat * 10, none⟩ = some (.int .i64 ((rd_T26 y166 x5_1).f0)) := hcc13 0 _ rfl; have hx13_1 : w32.cell? ⟨go5, (x5_1 : Int).toNat * 10 + 1, none⟩ = some (.int .i64 ((rd_T26 y166 x5_1).f1)) := hcc13 1 _ rfl; have hx13_2 : w32.cell? ⟨go5, (x5_1 : Int).toNat * 10 + 2, none⟩ = some (.bool ((rd_T26 y166 x5_1).f2)) := hcc13 2 _ rfl; have hx13_3 : w32.cell? ⟨go5, (x5_1 : Int).toNat * 10 + 3, none⟩ = some (.int .i64 ((rd_T26 y166 x5_1).f3)) := hcc13 3 _ rfl; have hx13_4 : w32.cell? ⟨go5, (x5_1 : Int).toNat * 10 + 4, none⟩ = some (.int .i64 ((rd_T26 y166 x5_1).f4)) := hcc13 4 _ rfl; have hx13_5 : w32.cell? ⟨go5, (x5_1 : Int).toNat * 10 + 5, none⟩ = some (.int .i64 ((rd_T26 y166 x5_1).f5)) := hcc13 5 _ rfl; have hx13_6 : w32.cell? ⟨go5, (x5_1 : Int).toNat * 10 + 6, none⟩ = some (.int .i64 ((rd_T26 y166 x5_1).f6)) := hcc13 6 _ rfl; have hx13_7 : w32.cell? ⟨go5, (x5_1 : Int).toNat * 10 + 7, none⟩ = some (.int .i64 ((rd_T26 y166 x5_1).f7)) := hcc13 7 _ rfl; have hx13_8 : w32.cell? ⟨go5, (x5_1 : Int).toNat * 10 + 8, none⟩ = some (.int .i64 ((rd_T26 y166 x5_1).f8)) := hcc13 8 _ rfl; have hx13_9 : w32.cell? ⟨go5, (x5_1 : Int).toNat * 10 + 9, none⟩ = some (.string ((rd_T26 y166 x5_1).f9)) := hcc13 9 _ rfl; have hf13_0 : w32.frozen? ⟨go5, (x5_1 : Int).toNat * 10, none⟩ = false := hfr13 0; have hf13_1 : w32.frozen? ⟨go5, (x5_1 : Int).toNat * 10 + 1, none⟩ = false := hfr13 1; have hf13_2 : w32.frozen? ⟨go5, (x5_1 : Int).toNat * 10 + 2, none⟩ = false := hfr13 2; have hf13_3 : w32.frozen? ⟨go5, (x5_1 : Int).toNat * 10 + 3, none⟩ = false := hfr13 3; have hf13_4 : w32.frozen? ⟨go5, (x5_1 : Int).toNat * 10 + 4, none⟩ = false := hfr13 4; have hf13_5 : w32.frozen? ⟨go5, (x5_1 : Int).toNat * 10 + 5, none⟩ = false := hfr13 5; have hf13_6 : w32.frozen? ⟨go5, (x5_1 : Int).toNat * 10 + 6, none⟩ = false := hfr13 6; have hf13_7 : w32.frozen? ⟨go5, (x5_1 : Int).toNat * 10 + 7, none⟩ = false := hfr13 7; have hf13_8 : w32.frozen? ⟨go5, (x5_1 : Int).toNat * 10 + 8, none⟩ = false := hfr13 8; have hf13_9 : w32.frozen? ⟨go5, (x5_1 : Int).toNat * 10 + 9, none⟩ = false := hfr13 9; clear hcl13 hcc13 hfr13 hM13; replace p13 := eq_true p13; replace q13 := eq_true q13; have HX33 := Aside0.mk (show Kd.R k26 26 w32 w0.heap.size (fun k_ => (P0_ k_ ∨ w.heap.size ≤ k_)) (.slice (some ⟨go5, 0, none⟩) x0_1.length co16) y166 from (by (with_reducible repeat (first | apply Kd.R_alloc | apply Kd.R_drewN | apply Kd.R_drew)); exact HO_0.out)); obtain ⟨ce33, hcl33, hM33, hcc33, hfr33⟩ := Kd.R_elem HX33.out z26 (x5_1 : Int) (of_decide_eq_true (by first | (with_reducible assumption) | assumption)) (by have h_ : (x5_1 : Int) < ((x0_1.length : Int) : Int) := of_decide_eq_true (by first | (with_reducible assumption) | assumption); first | exact h_ | (have e_ := (Kd.R_reads' HO_0.out).1; omega) | simpa using h_); obtain rfl := k26_openM hM33; have HP33 := Kd.R_seg HX33.out (x5_1 : Int) (of_decide_eq_true (by first | (with_reducible assumption) | assumption)) (by have h_ : (x5_1 : Int) < ((x0_1.length : Int) : Int) := of_decide_eq_true (by first | (with_reducible assumption) | assumption); first | exact h_ | (have e_ := (Kd.R_reads' HO_0.out).1; omega) | simpa using h_) (seg := [.int .i64 (wrap64 ((wrap64 ((wrap64 ((wrap64 ((wrap64 ((wrap64 ((wrap64 ((wrap64 (x1_1 + 1)) + 1)) + 1)) + 1)) + 1)) + 1)) + 1)) + 1))]) (j := 8) hcl33 hcc33 (show 9 ≤ 10 from by decide) (x' := (⟨(rd_T26 y166 x5_1).f0, (rd_T26 y166 x5_1).f1, (rd_T26 y166 x5_1).f2, (rd_T26 y166 x5_1).f3, (rd_T26 y166 x5_1).f4, (rd_T26 y166 x5_1).f5, (rd_T26 y166 x5_1).f6, (rd_T26 y166 x5_1).f7, wrap64 ((wrap64 ((wrap64 ((wrap64 ((wrap64 ((wrap64 ((wrap64 ((wrap64 (x1_1 + 1)) + 1)) + 1)) + 1)) + 1)) + 1)) + 1)) + 1), (rd_T26 y166 x5_1).f9⟩ : S26)) (k26_mkM _ _ _ (⟨(rd_T26 y166 x5_1).f0, (rd_T26 y166 x5_1).f1, (rd_T26 y166 x5_1).f2, (rd_T26 y166 x5_1).f3, (rd_T26 y166 x5_1).f4, (rd_T26 y166 x5_1).f5, (rd_T26 y166 x5_1).f6, (rd_T26 y166 x5_1).f7, wrap64 ((wrap64 ((wrap64 ((wrap64 ((wrap64 ((wrap64 ((wrap64 ((wrap64 (x1_1 + 1)) + 1)) + 1)) + 1)) + 1)) + 1)) + 1)) + 1), (rd_T26 y166 x5_1).f9⟩ : S26) ) (fun _ hk => hk); have hx33_8 := hcc33 8 _ rfl; (try simp only [show (k26).sz = 10 from rfl, Nat.mul_one, Nat.add_zero] at hx33_8); have hf33_8 := hfr33 8; (try simp only [show (k26).sz = 10 from rfl, Nat.mul_one, Nat.add_zero] at hf33_8); clear hcl33 hcc33 hfr33 hM33) | ((with_reducible refine gate_store (t := 3) (p := 74) rfl ?_); refine store_event (t := 3) (p := 74) (v := ?vo_w34) (w1 := (w32.setCell ⟨go5, (x5_1 : Int).toNat * 10 + 8, none⟩ (.int .i64 (wrap64 ((wrap64 ((wrap64 ((wrap64 ((wrap64 ((wrap64 ((wrap64 ((wrap64 (x1_1 + 1)) + 1)) + 1)) + 1)) + 1)) + 1)) + 1)) + 1))))) ?hg ?ho ?hn ?hr ?_; (case ho => rfl); (case hg => rfl); (case hn => rfl); (case hr => first | (go_simp; done) | (go_simp; rfl)); intro w34 hw; have hg : w32.grownBy w34 (some go5) := (by rw [hw]; exact HP33.2); have hp_ : Kd.R k26 26 w34 w0.heap.size (fun k_ => (P0_ k_ ∨ w.heap.size ≤ k_)) (.slice (some ⟨go5, 0, none⟩) x0_1.length co16) y167 := (by rw [hw, Ny167.out]; exact HP33.1); clear HP33; have n0_ := Aside0.mk (hp_); have n1_ := Aside0.mk ((by rw [hw]; exact below_set (HB.out) GB5.out : Below w0.heap.size w0 w34)); have n2_ := Aside0.mk (Kept.of_grown (S := (fun k_ => P0_ k_)) hg (by repeat (first | (with_reducible first | exact HK.out | apply Kept.alloc | apply Kept.drewN | apply Kept.drew) | exact HK.out)) (fun k_ e_ => (HO_0.out.1 k_ e_))); clear HO_0; clear HB; clear HK; have HO_0 := n0_; have HB := n1_; have HK := n2_; clear n0_ n1_ n2_; clear hg hw hp_) | ((with_reducible refine gate_callee (f := 61) rfl ?_); refine goesL_ (some 80) rfl rfl Try.func61 (by kernel_rfl) rfl #[.int .i64 (wrap64 ((wrap64 ((wrap64 ((wrap64 ((wrap64 ((wrap64 ((wrap64 ((wrap64 ((wrap64 (x1_1 + 1)) + 1)) + 1)) + 1)) + 1)) + 1)) + 1)) + 1)) + 1))] rfl (by (try simp only [List.map_toArray, List.map_cons, List.map_nil]); first | done | rfl | (simp only [List.length_drop, List.length_take]; rfl)) ?_; (with_reducible refine (laws_markText.calls k1 (wrap64 ((wrap64 ((wrap64 ((wrap64 ((wrap64 ((wrap64 ((wrap64 ((wrap64 ((wrap64 (x1_1 + 1)) + 1)) + 1)) + 1)) + 1)) + 1)) + 1)) + 1)) + 1)) t168 _ A14.out).mono ?_); rintro e w35 ⟨rfl, hb⟩; refine ⟨_, rfl, ?_⟩; have n0_ := Aside0.mk (Kd.R_below (by (with_reducible repeat (first | apply Kd.R_alloc | apply Kd.R_drewN | apply Kd.R_drew)); exact HO_0.out) hb); have n1_ := Aside0.mk (Kept.below (S := (fun k_ => P0_ k_)) (by repeat (first | (with_reducible first | exact HK.out | apply Kept.alloc | apply Kept.drewN | apply Kept.drew) | exact HK.out)) hb); have n2_ := Aside0.mk (below_step (by repeat (first | (with_reducible first | exact HB.out | apply below_alloc | apply pw_below_drewN | apply below_drew1) | exact HB.out | (with_reducible exact Below.refl _ _))) hb); clear HO_0; clear HK; clear HB; have HO_0 := n0_; have HK := n1_; have HB := n2_; clear n0_ n1_ n2_; (try clear hb); (try clear hb2); (try clear hk); (try clear hi); have p15 : 0 ≤ (x5_1 : Int) := of_decide_eq_true (by first | (with_reducible assumption) | assumption); have q15 : (x5_1 : Int) < ((x0_1.length : Int) : Int) := of_decide_eq_true (by first | (with_reducible assumption) | assumption); obtain ⟨ce15, hcl15, hM15, hcc15, hfr15⟩ := Kd.R_elem HO_0.out z26 (x5_1 : Int) p15 q15; obtain rfl := k26_openM hM15; have hx15_0 : w35.cell? ⟨go5, (x5_1 : Int).toNat * 10, none⟩ = some (.int .i64 ((rd_T26 y167 x5_1).f0)) := hcc15 0 _ rfl; have hx15_1 : w35.cell? ⟨go5, (x5_1 : Int).toNat * 10 + 1, none⟩ = some (.int .i64 ((rd_T26 y167 x5_1).f1)) := hcc15 1 _ rfl; have hx15_2 : w35.cell? ⟨go5, (x5_1 : Int).toNat * 10 + 2, none⟩ = some (.bool ((rd_T26 y167 x5_1).f2)) := hcc15 2 _ rfl; have hx15_3 : w35.cell? ⟨go5, (x5_1 : Int).toNat * 10 + 3, none⟩ = some (.int .i64 ((rd_T26 y167 x5_1).f3)) := hcc15 3 _ rfl; have hx15_4 : w35.cell? ⟨go5, (x5_1 : Int).toNat * 10 + 4, none⟩ = some (.int .i64 ((rd_T26 y167 x5_1).f4)) := hcc15 4 _ rfl; have hx15_5 : w35.cell? ⟨go5, (x5_1 : Int).toNat * 10 + 5, none⟩ = some (.int .i64 ((rd_T26 y167 x5_1).f5)) := hcc15 5 _ rfl; have hx15_6 : w35.cell? ⟨go5, (x5_1 : Int).toNat * 10 + 6, none⟩ = some (.int .i64 ((rd_T26 y167 x5_1).f6)) := hcc15 6 _ rfl; have hx15_7 : w35.cell? ⟨go5, (x5_1 : Int).toNat * 10 + 7, none⟩ = some (.int .i64 ((rd_T26 y167 x5_1).f7)) := hcc15 7 _ rfl; have hx15_8 : w35.cell? ⟨go5, (x5_1 : Int).toNat * 10 + 8, none⟩ = some (.int .i64 ((rd_T26 y167 x5_1).f8)) := hcc15 8 _ rfl; have hx15_9 : w35.cell? ⟨go5, (x5_1 : Int).toNat * 10 + 9, none⟩ = some (.string ((rd_T26 y167 x5_1).f9)) := hcc15 9 _ rfl; have hf15_0 : w35.frozen? ⟨go5, (x5_1 : Int).toNat * 10, none⟩ = false := hfr15 0; have hf15_1 : w35.frozen? ⟨go5, (x5_1 : Int).toNat * 10 + 1, none⟩ = false := hfr15 1; have hf15_2 : w35.frozen? ⟨go5, (x5_1 : Int).toNat * 10 + 2, none⟩ = false := hfr15 2; have hf15_3 : w35.frozen? ⟨go5, (x5_1 : Int).toNat * 10 + 3, none⟩ = false := hfr15 3; have hf15_4 : w35.frozen? ⟨go5, (x5_1 : Int).toNat * 10 + 4, none⟩ = false := hfr15 4; have hf15_5 : w35.frozen? ⟨go5, (x5_1 : Int).toNat * 10 + 5, none⟩ = false := hfr15 5; have hf15_6 : w35.frozen? ⟨go5, (x5_1 : Int).toNat * 10 + 6, none⟩ = false := hfr15 6; have hf15_7 : w35.frozen? ⟨go5, (x5_1 : Int).toNat * 10 + 7, none⟩ = false := hfr15 7; have hf15_8 : w35.frozen? ⟨go5, (x5_1 : Int).toNat * 10 + 8, none⟩ = false := hfr15 8; have hf15_9 : w35.frozen? ⟨go5, (x5_1 : Int).toNat * 10 + 9, none⟩ = false := hfr15 9; clear hcl15 hcc15 hfr15 hM15; replace p15 := eq_true p15; replace q15 := eq_true q15; have HX36 := Aside0.mk (show Kd.R k26 26 w35 w0.heap.size (fun k_ => (P0_ k_ ∨ w.heap.size ≤ k_)) (.slice (some ⟨go5, 0, none⟩) x0_1.length co16) y167 from (by (with_reducible repeat (first | apply Kd.R_alloc | apply Kd.R_drewN | apply Kd.R_drew)); exact HO_0.out)); obtain ⟨ce36, hcl36, hM36, hcc36, hfr36⟩ := Kd.R_elem HX36.out z26 (x5_1 : Int) (of_decide_eq_true (by first | (with_reducible assumption) | assumption)) (by have h_ : (x5_1 : Int) < ((x0_1.length : Int) : Int) := of_decide_eq_true (by first | (with_reducible assumption) | assumption); first | exact h_ | (have e_ := (Kd.R_reads' HO_0.out).1; omega) | simpa using h_); obtain rfl := k26_openM hM36; have HP36 := Kd.R_seg HX36.out (x5_1 : Int) (of_decide_eq_true (by first | (with_reducible assumption) | assumption)) (by have h_ : (x5_1 : Int) < ((x0_1.length : Int) : Int) := of_decide_eq_true (by first | (with_reducible assumption) | assumption); first | exact h_ | (have e_ := (Kd.R_reads' HO_0.out).1; omega) | simpa using h_) (seg := [.string t168]) (j := 9) hcl36 hcc36 (show 10 ≤ 10 from by decide) (x' := (⟨(rd_T26 y167 x5_1).f0, (rd_T26 y167 x5_1).f1, (rd_T26 y167 x5_1).f2, (rd_T26 y167 x5_1).f3, (rd_T26 y167 x5_1).f4, (rd_T26 y167 x5_1).f5, (rd_T26 y167 x5_1).f6, (rd_T26 y167 x5_1).f7, (rd_T26 y167 x5_1).f8, t168⟩ : S26)) (k26_mkM _ _ _ (⟨(rd_T26 y167 x5_1).f0, (rd_T26 y167 x5_1).f1, (rd_T26 y167 x5_1).f2, (rd_T26 y167 x5_1).f3, (rd_T26 y167 x5_1).f4, (rd_T26 y167 x5_1).f5, (rd_T26 y167 x5_1).f6, (rd_T26 y167 x5_1).f7, (rd_T26 y167 x5_1).f8, t168⟩ : S26) ) (fun _ hk => hk); have hx36_9 := hcc36 9 _ rfl; (try simp only [show (k26).sz = 10 from rfl, Nat.mul_one, Nat.add_zero] at hx36_9); have hf36_9 := hfr36 9; (try simp only [show (k26).sz = 10 from rfl, Nat.mul_one, Nat.add_zero] at hf36_9); clear hcl36 hcc36 hfr36 hM36) | ((with_reducible refine gate_store (t := 9) (p := 82) rfl ?_); refine store_event (t := 9) (p := 82) (v := ?vo_w37) (w1 := (w35.setCell ⟨go5, (x5_1 : Int).toNat * 10 + 9, none⟩ (.string t168))) ?hg ?ho ?hn ?hr ?_; (case ho => rfl); (case hg => rfl); (case hn => rfl); (case hr => first | (go_simp; done) | (go_simp; rfl)); intro w37 hw; have hg : w35.grownBy w37 (some go5) := (by rw [hw]; exact HP36.2); have hp_ : Kd.R k26 26 w37 w0.heap.size (fun k_ => (P0_ k_ ∨ w.heap.size ≤ k_)) (.slice (some ⟨go5, 0, none⟩) x0_1.length co16) y169 := (by rw [hw, Ny169.out]; exact HP36.1); clear HP36; have n0_ := Aside0.mk (hp_); have n1_ := Aside0.mk ((by rw [hw]; exact below_set (HB.out) GB5.out : Below w0.heap.size w0 w37)); have n2_ := Aside0.mk (Kept.of_grown (S := (fun k_ => P0_ k_)) hg (by repeat (first | (with_reducible first | exact HK.out | apply Kept.alloc | apply Kept.drewN | apply Kept.drew) | exact HK.out)) (fun k_ e_ => (HO_0.out.1 k_ e_))); clear HO_0; clear HB; clear HK; have HO_0 := n0_; have HB := n1_; have HK := n2_; clear n0_ n1_ n2_; clear hg hw hp_))
          go_roundg k1
          case measure => have := HK1.out; omega
          case rel => exact ⟨(y169), (wrap64 ((wrap64 ((wrap64 ((wrap64 ((wrap64 ((wrap64 ((wrap64 ((wrap64 ((wrap64 ((wrap64 (x1_1 + 1)) + 1)) + 1)) + 1)) + 1)) + 1)) + 1)) + 1)) + 1)) + 1)), (wrap64 (x5_1 + 1)), (by first | rfl | (simp; done) | (simp [*]; done)), (by first | rfl | (simp; done) | (simp [*]; done)), H', ⟨by have := HK1.out; omega⟩, ⟨by (with_reducible repeat (first | apply Kd.R_alloc | apply Kd.R_drewN | apply Kd.R_drew)); exact HO_0.out⟩, ⟨by repeat (first | (with_reducible first | exact HK.out | apply Kept.alloc | apply Kept.drewN | apply Kept.drew) | exact HK.out)⟩, ⟨by repeat (first | (with_reducible first | exact HB.out | apply below_alloc | apply pw_below_drewN | apply below_drew1) | exact HB.out | (with_reducible exact Below.refl _ _))⟩⟩
        · rw [if_neg c4] at H
          exact absurd H (by simp)
      · rw [if_neg c3] at H
        have c3b0 : decide (x5_1 < (x0_1.length : Int)) = false := decide_eq_false c3
        clear c3
        simp only [Option.some.injEq, Prod.mk.injEq] at H
        obtain ⟨rfl, rfl⟩ := H
        obtain ⟨Ao38, co38, eo38⟩ := Kd.R_slice HO_0.out
        subst eo38
        go_wp2
        go_ret
        exact ⟨by first | rfl | (simp [errW_none, errW_some] <;> rfl) | (simp [*, errW_none, errW_some] <;> rfl), by (with_reducible repeat (first | apply Kd.R_alloc | apply Kd.R_drewN | apply Kd.R_drew)); exact HO_0.out, by repeat (first | (with_reducible first | exact HB.out | apply below_alloc | apply pw_below_drewN | apply below_drew1) | exact HB.out | (with_reducible exact Below.refl _ _)), by repeat (first | (with_reducible first | exact HK.out | apply Kept.alloc | apply Kept.drewN | apply Kept.drew) | exact HK.out)⟩

end Go.Proofs.Ytkljbkminihlbaa.QFnExactCutBundle
