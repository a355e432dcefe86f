import Derived.Test.YtckndinhkkhonaaQFnEarliestx0
import Derived.Test.YtckndinhkkhonaaQFnEarliestx1
import Derived.Test.YtckndinhkkhonaaQFnEarliestx4
namespace Go.Proofs.Ytckndinhkkhonaa.QFnEarliest
open Go.RowKit Go.Proofs.YtckndinhkkhonaaW.PrintWords Go.Proofs.YtckndinhkkhonaaW.PrintLast Go.Proofs.YtckndinhkkhonaaW.PrintMore
attribute [local go_sem] max2_int min2_int max_two min_two max_three min_three max_four min_four   -- for this text's walks alone
set_option linter.unusedVariables false
set_option linter.unusedSimpArgs false
def spec_EarliestFrom.f (k : Nat) (l0 : List (S53)) (a1 : Int) (a2 : Int) : Option (List Int × Bool) := (spec_GoodPlan.f k l0).bind fun t158 => (if t158 = true then ((spec_l6Node.f a1).bind fun t159 => (if t159 = true then ((spec_l6When.f a2).bind fun t160 => (if t160 = true then ((spec_l6Search.f k l0 a1 a2).bind fun bt161 => (some (bt161.1, true))) else (some (([] : List Int), false)))) else (some (([] : List Int), false)))) else (some (([] : List Int), false)))
theorem spec_EarliestFrom.mono : ∀ a0 a1 a2 k, LeO (spec_EarliestFrom.f k a0 a1 a2) (spec_EarliestFrom.f (k + 1) a0 a1 a2) := by
 intro a0 a1 a2 k; unfold spec_EarliestFrom.f
 repeat' first
   | (with_reducible exact spec_GoodPlan.mono _ _)
   | (with_reducible exact spec_l6Search.mono _ _ _ _)
   | (with_reducible exact LeO.refl _)
   | (with_reducible exact LeO.none _)
   | (with_reducible refine LeO.ite ?_ ?_)
   | (with_reducible refine LeO.bind ?_ (fun _ => ?_))
   | exact spec_GoodPlan.mono _ _
   | exact spec_l6Search.mono _ _ _ _
   | exact LeO.none _
   | refine LeO.ite ?_ ?_
   | refine LeO.bind ?_ (fun _ => ?_)
set_option maxHeartbeats 8000000 in
set_option maxRecDepth 100000 in
theorem spec_EarliestFrom.calls (k : Nat) (A0 : Option Addr) (c0 : Nat) (l0 : List (S53)) (a1 : Int) (a2 : Int) (r1 : List Int) (r2 : Bool) (w : World) (hr0 : Kd.C k53 w A0 l0.length l0) (hc0 : l0.length ≤ c0) (h : spec_EarliestFrom.f k l0 a1 a2 = some (r1, r2)) :
  Calls Try.prog 30 #[.slice A0 l0.length c0, .int .i64 a1, .int .i64 a2] w fun e w' => ∃ v0_ : Value, e = .returned (.tuple #[v0_, .bool r2]) ∧ Kd.R (Kd.int .i64) 3 w' w.heap.size (fun _ => True) v0_ r1 ∧ Below w.heap.size w w' := by
 have HR0 := Aside0.mk hr0; have HC0 := Aside0.mk hc0; clear hr0 hc0; have HB := Aside0.mk (Below.refl w.heap.size w); have H : ((spec_GoodPlan.f k l0).bind fun t158 => (if t158 = true then ((spec_l6Node.f a1).bind fun t159 => (if t159 = true then ((spec_l6When.f a2).bind fun t160 => (if t160 = true then ((spec_l6Search.f k l0 a1 a2).bind fun bt161 => (some (bt161.1, true))) else (some (([] : List Int), false)))) else (some (([] : List Int), false)))) else (some (([] : List Int), false)))) = some (r1, r2) := h; clear h; replace H := Option.bind_eq_some_iff.mp H; obtain ⟨t158, A40, H⟩ := H; replace H : (if t158 = true then ((spec_l6Node.f a1).bind fun t159 => (if t159 = true then ((spec_l6When.f a2).bind fun t160 => (if t160 = true then ((spec_l6Search.f k l0 a1 a2).bind fun bt161 => (some (bt161.1, true))) else (some (([] : List Int), false)))) else (some (([] : List Int), false)))) else (some (([] : List Int), false))) = some (r1, r2) := H; have A4 := Aside0.mk A40; clear A40; by_cases c5 : t158 = true
 ·subst c5; have H1 : ((spec_l6Node.f a1).bind fun t159 => (if t159 = true then ((spec_l6When.f a2).bind fun t160 => (if t160 = true then ((spec_l6Search.f k l0 a1 a2).bind fun bt161 => (some (bt161.1, true))) else (some (([] : List Int), false)))) else (some (([] : List Int), false)))) = some (r1, r2) := by rw [if_pos rfl] at H; exact H
  clear H; have H := H1; clear H1; replace H := Option.bind_eq_some_iff.mp H; obtain ⟨t159, A60, H⟩ := H; replace H : (if t159 = true then ((spec_l6When.f a2).bind fun t160 => (if t160 = true then ((spec_l6Search.f k l0 a1 a2).bind fun bt161 => (some (bt161.1, true))) else (some (([] : List Int), false)))) else (some (([] : List Int), false))) = some (r1, r2) := H; have A6 := Aside0.mk A60; clear A60; by_cases c7 : t159 = true
  ·subst c7; have H1 : ((spec_l6When.f a2).bind fun t160 => (if t160 = true then ((spec_l6Search.f k l0 a1 a2).bind fun bt161 => (some (bt161.1, true))) else (some (([] : List Int), false)))) = some (r1, r2) := by rw [if_pos rfl] at H; exact H
   clear H; have H := H1; clear H1; replace H := Option.bind_eq_some_iff.mp H; obtain ⟨t160, A80, H⟩ := H; replace H : (if t160 = true then ((spec_l6Search.f k l0 a1 a2).bind fun bt161 => (some (bt161.1, true))) else (some (([] : List Int), false))) = some (r1, r2) := H; have A8 := Aside0.mk A80; clear A80; by_cases c9 : t160 = true
   ·subst c9; have H1 : ((spec_l6Search.f k l0 a1 a2).bind fun bt161 => (some (bt161.1, true))) = some (r1, r2) := by rw [if_pos rfl] at H; exact H
    clear H; have H := H1; clear H1; replace H := Option.bind_eq_some_iff.mp H; obtain ⟨⟨t161, t162⟩, A100, H⟩ := H; replace H : (some (t161, true)) = some (r1, r2) := H; have A10 := Aside0.mk A100; clear A100; simp only [Option.some.injEq, Prod.mk.injEq] at H; obtain ⟨rfl, rfl⟩ := H
    go_enter Try.func30, Try.ntmps30
    go_wp2_with (first | ((with_reducible refine gate_callee (f := 15) rfl ?_); refine goesL_ (some 11) rfl rfl Try.func15 (by kernel_rfl) rfl #[.slice A0 l0.length c0] rfl (by (try simp only [List.map_toArray, List.map_cons, List.map_nil]); first | done | rfl | (simp only [List.length_drop, List.length_take]; rfl)) ?_; (with_reducible refine (spec_GoodPlan.calls k _ _ l0 true _ ?side1 ?side2 A4.out).mono ?_); (case side1 => repeat (first | exact HR0.out | with_reducible first | refine Kd.C_alloc ?_ _ | refine Kd.C_drewN ?_ _ | refine Kd.C_drew ?_)); (case side2 => exact HC0.out); rintro e w11 ⟨rfl, hb⟩; refine ⟨_, rfl, ?_⟩; have n0_ := Aside0.mk (below_step (by repeat (first | (with_reducible first | exact HB.out | apply below_alloc | apply pw_below_drewN | apply below_drew1) | exact HB.out | (with_reducible exact Below.refl _ _))) hb); clear HB; have HB := n0_; clear n0_; (try clear hb); (try clear hb2); (try clear hk); (try clear hi)) | (go_at_call 49; (with_reducible refine (spec_l6Node.calls a1 true _ A6.out).mono ?_); rintro e w' ⟨rfl, ⟨nd, rfl⟩⟩) | (go_at_call 50; (with_reducible refine (spec_l6When.calls a2 true _ A8.out).mono ?_); rintro e w' ⟨rfl, ⟨nd, rfl⟩⟩) | ((with_reducible refine gate_callee (f := 65) rfl ?_); refine goesL_ (some 27) rfl rfl Try.func65 (by kernel_rfl) rfl #[.slice A0 l0.length c0, .int .i64 a1, .int .i64 a2] rfl (by (try simp only [List.map_toArray, List.map_cons, List.map_nil]); first | done | rfl | (simp only [List.length_drop, List.length_take]; rfl)) ?_; (with_reducible refine (spec_l6Search.calls k _ _ l0 a1 a2 t161 t162 _ ?side1 ?side2 A10.out).mono ?_); (case side1 => repeat (first | exact (Kd.C_below HR0.out (by repeat (first | (with_reducible first | exact HB.out | apply below_alloc | apply pw_below_drewN | apply below_drew1) | exact HB.out | (with_reducible exact Below.refl _ _)))) | with_reducible first | refine Kd.C_alloc ?_ _ | refine Kd.C_drewN ?_ _ | refine Kd.C_drew ?_)); (case side2 => exact HC0.out); rintro e w12 ⟨v163, v165, rfl, ho0, ho1, hb⟩; refine ⟨_, rfl, ?_⟩; have n0_ := Aside0.mk (Kd.R_lower ho0 (below_size (by repeat (first | (with_reducible first | exact HB.out | apply below_alloc | apply pw_below_drewN | apply below_drew1) | exact HB.out | (with_reducible exact Below.refl _ _))))); have n1_ := Aside0.mk (Kd.R_lower ho1 (below_size (by repeat (first | (with_reducible first | exact HB.out | apply below_alloc | apply pw_below_drewN | apply below_drew1) | exact HB.out | (with_reducible exact Below.refl _ _))))); have n2_ := Aside0.mk (below_step (by repeat (first | (with_reducible first | exact HB.out | apply below_alloc | apply pw_below_drewN | apply below_drew1) | exact HB.out | (with_reducible exact Below.refl _ _))) hb); clear HB; have HO164 := n0_; have HO166 := n1_; have HB := n2_; clear n0_ n1_ n2_; (try clear hb); (try clear hb2); (try clear hk); (try clear hi); (try clear ho0); (try clear ho1))); go_ret2; exact ⟨_, by first | rfl | (simp [errW_none, errW_some] <;> rfl) | (simp [*, errW_none, errW_some] <;> rfl), by (with_reducible repeat (first | apply Kd.R_alloc | apply Kd.R_drewN | apply Kd.R_drew)); exact Kd.R_mono HO164.out (fun _ hk => trivial), by repeat (first | (with_reducible first | exact HB.out | apply below_alloc | apply pw_below_drewN | apply below_drew1) | exact HB.out | (with_reducible exact Below.refl _ _))⟩
   ·replace c9 := Bool.eq_false_iff.mpr c9; subst c9; have H1 : (some (([] : List Int), false)) = some (r1, r2) := by rw [if_neg (show ¬ (false = true) by decide)] at H; exact H
    clear H; have H := H1; clear H1; simp only [Option.some.injEq, Prod.mk.injEq] at H; obtain ⟨rfl, rfl⟩ := H
    go_enter Try.func30, Try.ntmps30
    go_wp2_with (first | ((with_reducible refine gate_callee (f := 15) rfl ?_); refine goesL_ (some 11) rfl rfl Try.func15 (by kernel_rfl) rfl #[.slice A0 l0.length c0] rfl (by (try simp only [List.map_toArray, List.map_cons, List.map_nil]); first | done | rfl | (simp only [List.length_drop, List.length_take]; rfl)) ?_; (with_reducible refine (spec_GoodPlan.calls k _ _ l0 true _ ?side1 ?side2 A4.out).mono ?_); (case side1 => repeat (first | exact HR0.out | with_reducible first | refine Kd.C_alloc ?_ _ | refine Kd.C_drewN ?_ _ | refine Kd.C_drew ?_)); (case side2 => exact HC0.out); rintro e w13 ⟨rfl, hb⟩; refine ⟨_, rfl, ?_⟩; have n0_ := Aside0.mk (below_step (by repeat (first | (with_reducible first | exact HB.out | apply below_alloc | apply pw_below_drewN | apply below_drew1) | exact HB.out | (with_reducible exact Below.refl _ _))) hb); clear HB; have HB := n0_; clear n0_; (try clear hb); (try clear hb2); (try clear hk); (try clear hi)) | (go_at_call 49; (with_reducible refine (spec_l6Node.calls a1 true _ A6.out).mono ?_); rintro e w' ⟨rfl, ⟨nd, rfl⟩⟩) | (go_at_call 50; (with_reducible refine (spec_l6When.calls a2 false _ A8.out).mono ?_); rintro e w' ⟨rfl, ⟨nd, rfl⟩⟩)); go_ret2; exact ⟨_, by first | rfl | (simp [errW_none, errW_some] <;> rfl) | (simp [*, errW_none, errW_some] <;> rfl), by first | exact Kd.R_nil _ _ _ _ _ | exact Kd.N_nil _ _ _ _ _ | exact Kd.V_nil _ _ _ _ _ | exact Kd.Q_nil _ _ _ _ _ | exact Kd.S_nil _ _ _ _ _, by repeat (first | (with_reducible first | exact HB.out | apply below_alloc | apply pw_below_drewN | apply below_drew1) | exact HB.out | (with_reducible exact Below.refl _ _))⟩
  ·replace c7 := Bool.eq_false_iff.mpr c7; subst c7; have H1 : (some (([] : List Int), false)) = some (r1, r2) := by rw [if_neg (show ¬ (false = true) by decide)] at H; exact H
   clear H; have H := H1; clear H1; simp only [Option.some.injEq, Prod.mk.injEq] at H; obtain ⟨rfl, rfl⟩ := H
   go_enter Try.func30, Try.ntmps30
   go_wp2_with (first | ((with_reducible refine gate_callee (f := 15) rfl ?_); refine goesL_ (some 11) rfl rfl Try.func15 (by kernel_rfl) rfl #[.slice A0 l0.length c0] rfl (by (try simp only [List.map_toArray, List.map_cons, List.map_nil]); first | done | rfl | (simp only [List.length_drop, List.length_take]; rfl)) ?_; (with_reducible refine (spec_GoodPlan.calls k _ _ l0 true _ ?side1 ?side2 A4.out).mono ?_); (case side1 => repeat (first | exact HR0.out | with_reducible first | refine Kd.C_alloc ?_ _ | refine Kd.C_drewN ?_ _ | refine Kd.C_drew ?_)); (case side2 => exact HC0.out); rintro e w14 ⟨rfl, hb⟩; refine ⟨_, rfl, ?_⟩; have n0_ := Aside0.mk (below_step (by repeat (first | (with_reducible first | exact HB.out | apply below_alloc | apply pw_below_drewN | apply below_drew1) | exact HB.out | (with_reducible exact Below.refl _ _))) hb); clear HB; have HB := n0_; clear n0_; (try clear hb); (try clear hb2); (try clear hk); (try clear hi)) | (go_at_call 49; (with_reducible refine (spec_l6Node.calls a1 false _ A6.out).mono ?_); rintro e w' ⟨rfl, ⟨nd, rfl⟩⟩)); go_ret2; exact ⟨_, by first | rfl | (simp [errW_none, errW_some] <;> rfl) | (simp [*, errW_none, errW_some] <;> rfl), by first | exact Kd.R_nil _ _ _ _ _ | exact Kd.N_nil _ _ _ _ _ | exact Kd.V_nil _ _ _ _ _ | exact Kd.Q_nil _ _ _ _ _ | exact Kd.S_nil _ _ _ _ _, by repeat (first | (with_reducible first | exact HB.out | apply below_alloc | apply pw_below_drewN | apply below_drew1) | exact HB.out | (with_reducible exact Below.refl _ _))⟩
 ·replace c5 := Bool.eq_false_iff.mpr c5; subst c5; have H1 : (some (([] : List Int), false)) = some (r1, r2) := by rw [if_neg (show ¬ (false = true) by decide)] at H; exact H
  clear H; have H := H1; clear H1; simp only [Option.some.injEq, Prod.mk.injEq] at H; obtain ⟨rfl, rfl⟩ := H
  go_enter Try.func30, Try.ntmps30
  go_wp2_with (first | ((with_reducible refine gate_callee (f := 15) rfl ?_); refine goesL_ (some 11) rfl rfl Try.func15 (by kernel_rfl) rfl #[.slice A0 l0.length c0] rfl (by (try simp only [List.map_toArray, List.map_cons, List.map_nil]); first | done | rfl | (simp only [List.length_drop, List.length_take]; rfl)) ?_; (with_reducible refine (spec_GoodPlan.calls k _ _ l0 false _ ?side1 ?side2 A4.out).mono ?_); (case side1 => repeat (first | exact HR0.out | with_reducible first | refine Kd.C_alloc ?_ _ | refine Kd.C_drewN ?_ _ | refine Kd.C_drew ?_)); (case side2 => exact HC0.out); rintro e w15 ⟨rfl, hb⟩; refine ⟨_, rfl, ?_⟩; have n0_ := Aside0.mk (below_step (by repeat (first | (with_reducible first | exact HB.out | apply below_alloc | apply pw_below_drewN | apply below_drew1) | exact HB.out | (with_reducible exact Below.refl _ _))) hb); clear HB; have HB := n0_; clear n0_; (try clear hb); (try clear hb2); (try clear hk); (try clear hi))); go_ret2; exact ⟨_, by first | rfl | (simp [errW_none, errW_some] <;> rfl) | (simp [*, errW_none, errW_some] <;> rfl), by first | exact Kd.R_nil _ _ _ _ _ | exact Kd.N_nil _ _ _ _ _ | exact Kd.V_nil _ _ _ _ _ | exact Kd.Q_nil _ _ _ _ _ | exact Kd.S_nil _ _ _ _ _, by repeat (first | (with_reducible first | exact HB.out | apply below_alloc | apply pw_below_drewN | apply below_drew1) | exact HB.out | (with_reducible exact Below.refl _ _))⟩
set_option maxRecDepth 100000 in
set_option maxHeartbeats 4000000 in
theorem rp_mul64 (w : World) : Calls Try.prog 94 #[.int .u64 1, .int .u64 8] w fun e w' => e = .returned (.tuple #[.int .u64 0, .int .u64 8]) ∧ w' = w := by
 go_enter Try.func94, Try.ntmps94
 go_wp2; go_ret2; exact ⟨rfl, rfl⟩
set_option maxRecDepth 100000 in
set_option maxHeartbeats 4000000 in
theorem rp_mul (w : World) : Calls Try.prog 92 #[.int .u64 1, .int .u64 8] w fun e w' => e = .returned (.tuple #[.int .u64 0, .int .u64 8]) ∧ w' = w := by
 go_enter Try.func92, Try.ntmps92
 go_wp2_with (go_at_call 94; refine (rp_mul64 _).mono ?_; rintro e w' ⟨rfl, rfl⟩); go_ret2; exact ⟨rfl, rfl⟩
theorem rp_info : (Try.prog.info? 3).map (fun i => (i.zero, i.size, i.bytes)) = some (some (.int .i64 0), 1, 8) := by kernel_rfl
theorem rp_make (w : World) : Sem.run Try.prog (Instr.makeSlice 29 (.int .i64 8) (.int .i64 8)) w = .ok (.slice (some ⟨w.heap.size, 0, none⟩) 8 8) (w.alloc (.cells (madeCells (Value.int .i64 0).cells 8) 3)) := by
 obtain ⟨i, hi, hz⟩ := Option.map_eq_some_iff.1 rp_info; simp only [Prod.mk.injEq] at hz; obtain ⟨z0, z1, z2⟩ := hz; have := run_makeSlice (P := Try.prog) (w := w) 29 3 i (.int .i64 0) Try.underlying29 hi z0 .i64 .i64 8 8 (by decide) (by decide) (by rw [z1]; decide) (by rw [z2]; decide) (by decide); rw [z1] at this; exact this
def rpRow (m : Nat) : List Value := List.replicate m (.int .i64 (-1)) ++ List.replicate (8 - m) (.int .i64 0)
theorem rpRow_get {m j : Nat} (h : j < m) : (rpRow m)[j]? = some (.int .i64 (-1)) := by
 unfold rpRow; rw [List.getElem?_append_left (by simpa using h), List.getElem?_replicate, if_pos h]
theorem rp_cells : madeCells (Value.int .i64 0).cells 8 = (rpRow 0).toArray := by
 apply Array.ext
 ·simp [size_madeCells, rpRow]
 ·intro i h1 h2; rw [size_madeCells] at h1; simp [madeCells, rpRow, Value.cells]; rw [Nat.mod_one]
  match i, h1 with
  | 0, _ => rfl
  | 1, _ => rfl
  | 2, _ => rfl
  | 3, _ => rfl
  | 4, _ => rfl
  | 5, _ => rfl
  | 6, _ => rfl
  | 7, _ => rfl
theorem rp_new (w : World) : (w.alloc (.cells (madeCells (Value.int .i64 0).cells 8) 3)).heap[w.heap.size]? = some (.cells (rpRow 0).toArray 3 (0, 0)) := by
 rw [rp_cells]; show (w.heap.push _)[w.heap.size]? = _; rw [Array.getElem?_push_size]
theorem rp_copy (w : World) (ty : TypeId) (g o dLen dCap : Nat) (a : Addr) (sLen sCap m n : Nat) (hn : n = Nat.min sLen dLen) (hm : o = m) (hmn : m + n ≤ 8)
  (hg : w.heap[g]? = some (.cells (rpRow m).toArray 3 (0, 0))) (hsrc : ∀ j, j < n → w.cell? (a.add j) = some (.int .i64 (-1))) :
  Sem.run Try.prog (Builtin.copy_ #[29, 29] ty #[.slice (some ⟨g, o, none⟩) dLen dCap, .slice (some a) sLen sCap]) w = .ok (goInt n) (w.setRow g (rpRow (m + n)).toArray) := by
 subst hm; have hs : (Try.prog.info? 3).map (·.size) = some 1 := by
  obtain ⟨i, hi, hz⟩ := Option.map_eq_some_iff.1 rp_info; simp only [Prod.mk.injEq] at hz; rw [hi, Option.map_some, hz.2.1]
 have hl : (rpRow o).length = 8 := by simp [rpRow]; omega
 have := run_copy_row (P := Try.prog) w 29 29 ty 3 g o dLen dCap a sLen sCap (rpRow o).toArray 3 (List.replicate n (.int .i64 (-1))) Try.underlying29 hs hg (by simpa using hn)
  (fun j v hj => by
   obtain ⟨hj1, hj2⟩ := List.getElem?_eq_some_iff.mp hj; rw [List.length_replicate] at hj1; rw [List.getElem_replicate] at hj2; rw [← hj2]; exact hsrc j hj1) (by simp [hl]; omega) (fun v hv => by rw [List.eq_of_mem_replicate hv]; rfl)
 rw [List.length_replicate] at this; have e : ((rpRow o).toArray.toList.take o ++ List.replicate n (Value.int .i64 (-1)) ++ (rpRow o).toArray.toList.drop (o + n)) = rpRow (o + n) := by
  simp only [rpRow]; rw [List.take_left' (by simp), List.drop_append, List.length_replicate, List.drop_of_length_le (by simp), List.nil_append, List.drop_replicate, List.replicate_append_replicate]; rw [show 8 - o - (o + n - o) = 8 - (o + n) from by omega]
 rw [e] at this; exact this
set_option maxRecDepth 100000 in
set_option maxHeartbeats 4000000 in
theorem rp_walk (A0 : Option Addr) (c0 : Nat) (w : World) (hr0 : Kd.C (Kd.int .i64) w A0 1 [-1]) :
  Calls Try.prog 85 #[.slice A0 1 c0, .int .i64 8] w fun e w' => ∃ v0_ : Value, e = .returned (v0_) ∧ Kd.R (Kd.int .i64) 3 w' w.heap.size (fun _ => True) v0_ (List.replicate 8 (-1)) ∧ Below w.heap.size w w' := by
 obtain ⟨ad, rfl, g0⟩ := Kd.at_int hr0 0 (by decide) (by decide); clear hr0; have hmk := rp_make w; have g1 : w.cell? (ad.add 0) = some (.int .i64 (-1)) := g0; have hal := (Below.refl w.heap.size w).alloc (Nat.le_refl _) (.cells (madeCells (Value.int .i64 0).cells 8) 3); have hcp := fun ty => rp_copy (w.alloc (.cells (madeCells (Value.int .i64 0).cells 8) 3)) ty w.heap.size 0 8 8 ad 1 c0 0 1 (by decide) rfl (by decide) (rp_new w) (fun j hj => by
  obtain rfl : j = 0 := by omega
  rw [hal.cell (World.block_lt_of_cell? w _ g1)]; exact g1)
 have hnew := rp_new w; generalize hW : w.alloc (.cells (madeCells (Value.int .i64 0).cells 8) 3) = W1 at hmk hcp hal hnew; clear g0 g1
 go_enter Try.func85, Try.ntmps85
 go_wp2_with (go_at_call 92; refine (rp_mul _).mono ?_; rintro e w' ⟨rfl, rfl⟩)
 go_loopg [8] 8 (fun gg s8 wr => ∃ m : Nat, (m = 1 ∨ m = 2 ∨ m = 4 ∨ m = 8) ∧ 8 - m ≤ gg ∧ s8 = .int .i64 (m : Int) ∧ Aside0 (Below w'.heap.size w' wr) ∧ Aside0 (wr.heap[w'.heap.size]? = some (.cells (rpRow m).toArray 3 (0, 0))))
 case atStart => exact ⟨1, .inl rfl, by decide, rfl, ⟨below_setRow hal (Nat.le_refl _) _⟩, ⟨setRow_heap _ _ _ _ _ _ hnew⟩⟩
 case round =>
  clear hcp hmk; obtain ⟨m, hm, hg, rfl, HB, HC⟩ := hrel; have HD : wr.drew.heap[w'.heap.size]? = some (.cells (rpRow m).toArray 3 (0, 0)) := HC.out; have hcell : ∀ j : Nat, j < m → wr.drew.cell? ((⟨w'.heap.size, 0, none⟩ : Addr).add j) = some (.int .i64 (-1)) := fun j hj => by
   have h := rpRow_get hj; simp [add_plain, World.cell?, HD, h]
  rcases hm with rfl | rfl | rfl | rfl
  ·have hcp := fun ty => rp_copy wr.drew ty w'.heap.size 1 7 7 ⟨w'.heap.size, 0, none⟩ 1 8 1 1 (by decide) rfl (by decide) HD (fun j hj => hcell j (by omega))
   go_wp2
   go_region
   go_wp2; go_roundg (8 - 2)
   case measure => omega
   case rel => exact ⟨2, by decide, by omega, rfl, ⟨below_setRow (HB.out.trans (below_drew1 (Below.refl _ _))) (Nat.le_refl _) _⟩, ⟨setRow_heap _ _ _ _ _ _ HD⟩⟩
  ·have hcp := fun ty => rp_copy wr.drew ty w'.heap.size 2 6 6 ⟨w'.heap.size, 0, none⟩ 2 8 2 2 (by decide) rfl (by decide) HD (fun j hj => hcell j (by omega))
   go_wp2
   go_region
   go_wp2; go_roundg (8 - 4)
   case measure => omega
   case rel => exact ⟨4, by decide, by omega, rfl, ⟨below_setRow (HB.out.trans (below_drew1 (Below.refl _ _))) (Nat.le_refl _) _⟩, ⟨setRow_heap _ _ _ _ _ _ HD⟩⟩
  ·have hcp := fun ty => rp_copy wr.drew ty w'.heap.size 4 4 4 ⟨w'.heap.size, 0, none⟩ 4 8 4 4 (by decide) rfl (by decide) HD (fun j hj => hcell j (by omega))
   go_wp2
   go_region
   go_wp2; go_roundg (8 - 8)
   case measure => omega
   case rel => exact ⟨8, by decide, by omega, rfl, ⟨below_setRow (HB.out.trans (below_drew1 (Below.refl _ _))) (Nat.le_refl _) _⟩, ⟨setRow_heap _ _ _ _ _ _ HD⟩⟩
  ·go_wp2; go_ret; refine ⟨_, rfl, ?_, HB.out⟩; refine ⟨fun _ _ => trivial, (rpRow 8), ⟨rfl, .inr ⟨w'.heap.size, 8, (rpRow 8).toArray, rfl, Nat.le_refl _, HC.out, Nat.le_refl _, by decide, rfl, rfl⟩⟩, ?_⟩; exact Kd.reps_scalar (enc := Value.int .i64) (List.replicate 8 (-1))
def slices_Repeat_int_int.f (l0 : List Int) (a1 : Int) : Option (List Int) := if l0 = [-1] ∧ a1 = 8 then some (List.replicate 8 (-1)) else none
theorem slices_Repeat_int_int.calls (A0 : Option Addr) (c0 : Nat) (l0 : List Int) (a1 : Int) (r : List Int) (w : World) (hr0 : Kd.C (Kd.int .i64) w A0 l0.length l0) (hc0 : l0.length ≤ c0) (h : slices_Repeat_int_int.f l0 a1 = some r) :
  Calls Try.prog 85 #[.slice A0 l0.length c0, .int .i64 a1] w fun e w' => ∃ v0_ : Value, e = .returned (v0_) ∧ Kd.R (Kd.int .i64) 3 w' w.heap.size (fun _ => True) v0_ r ∧ Below w.heap.size w w' := by
 unfold slices_Repeat_int_int.f at h; by_cases hp : l0 = [-1] ∧ a1 = 8
 ·rw [if_pos hp] at h; obtain ⟨rfl, rfl⟩ := hp; obtain rfl := Option.some.inj h; exact rp_walk A0 c0 w hr0
 ·rw [if_neg hp] at h; cases h
end Go.Proofs.Ytckndinhkkhonaa.QFnEarliest
