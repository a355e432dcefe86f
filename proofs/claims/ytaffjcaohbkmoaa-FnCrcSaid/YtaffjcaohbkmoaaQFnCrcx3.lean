/- Each Go function that a law reaches as a plain Lean function, and the proof that the Go code comes to just its answers. Written by a program of this work. -/
import Derived.Test.YtaffjcaohbkmoaaQFnCrcx0
import Derived.Test.YtaffjcaohbkmoaaQFnCrcx1
import Derived.Test.YtaffjcaohbkmoaaQFnCrcx2
namespace Go.Proofs.Ytaffjcaohbkmoaa.QFnCrc
open Go.RowKit Go.Proofs.YtaffjcaohbkmoaaW.PrintWords Go.Proofs.YtaffjcaohbkmoaaW.PrintLast Go.Proofs.YtaffjcaohbkmoaaW.PrintMore
attribute [local go_sem] max2_int min2_int max_two min_two max_three min_three max_four min_four   -- for this text's walks alone
set_option linter.unusedVariables false
set_option linter.unusedSimpArgs false

/-! ### spec_CheckCrc: function 15 -/
def spec_CheckCrc.f (k : Nat) (a0 : ByteArray) : Option (ByteArray × Bool) := (spec_l1In.f (a0.size : Int) 2 400).bind fun t181 => (if t181 = true then (if 0 ≤ (wrap64 ((a0.size : Int) - 2)) then (if (wrap64 ((a0.size : Int) - 2)) ≤ (a0.size : Int) then ((spec_l1With.f k (a0.extract 0 ((wrap64 ((a0.size : Int) - 2)) : Int).toNat)).bind fun t182 => (if t182.toList = a0.toList then (some (a0.extract 0 ((wrap64 ((a0.size : Int) - 2)) : Int).toNat, true)) else (some ((⟨#[]⟩ : ByteArray), false)))) else (none)) else (none)) else (some ((⟨#[]⟩ : ByteArray), false)))
theorem spec_CheckCrc.mono : ∀ a0 k, LeO (spec_CheckCrc.f k a0) (spec_CheckCrc.f (k + 1) a0) := by
  intro a0 k
  unfold spec_CheckCrc.f
  repeat' first
      | (with_reducible exact spec_l1With.mono _ _)
      | (with_reducible exact LeO.refl _)
      | (with_reducible exact LeO.none _)
      | (with_reducible refine LeO.ite ?_ ?_)
      | (with_reducible refine LeO.bind ?_ (fun _ => ?_))
      | exact spec_l1With.mono _ _
      | exact LeO.none _
      | refine LeO.ite ?_ ?_
      | refine LeO.bind ?_ (fun _ => ?_)
set_option maxHeartbeats 8000000 in
set_option maxRecDepth 100000 in
theorem spec_CheckCrc.calls (k : Nat) (a0 : ByteArray) (r1 : ByteArray) (r2 : Bool) (w : World) (h : spec_CheckCrc.f k a0 = some (r1, r2)) :
    Calls Try.prog 15 #[.string a0] w fun e w' => e = .returned (.tuple #[.string r1, .bool r2]) ∧ Below w.heap.size w w' := by
  have HB := Aside0.mk (Below.refl w.heap.size w)
  have H : ((spec_l1In.f (a0.size : Int) 2 400).bind fun t181 => (if t181 = true then (if 0 ≤ (wrap64 ((a0.size : Int) - 2)) then (if (wrap64 ((a0.size : Int) - 2)) ≤ (a0.size : Int) then ((spec_l1With.f k (a0.extract 0 ((wrap64 ((a0.size : Int) - 2)) : Int).toNat)).bind fun t182 => (if t182.toList = a0.toList then (some (a0.extract 0 ((wrap64 ((a0.size : Int) - 2)) : Int).toNat, true)) else (some ((⟨#[]⟩ : ByteArray), false)))) else (none)) else (none)) else (some ((⟨#[]⟩ : ByteArray), false)))) = some (r1, r2) := h
  clear h
  replace H := Option.bind_eq_some_iff.mp H
  obtain ⟨t181, A20, H⟩ := H
  replace H : (if t181 = true then (if 0 ≤ (wrap64 ((a0.size : Int) - 2)) then (if (wrap64 ((a0.size : Int) - 2)) ≤ (a0.size : Int) then ((spec_l1With.f k (a0.extract 0 ((wrap64 ((a0.size : Int) - 2)) : Int).toNat)).bind fun t182 => (if t182.toList = a0.toList then (some (a0.extract 0 ((wrap64 ((a0.size : Int) - 2)) : Int).toNat, true)) else (some ((⟨#[]⟩ : ByteArray), false)))) else (none)) else (none)) else (some ((⟨#[]⟩ : ByteArray), false))) = some (r1, r2) := H
  have A2 := Aside0.mk A20
  clear A20
  by_cases c3 : t181 = true
  · subst c3
    have H1 : (if 0 ≤ (wrap64 ((a0.size : Int) - 2)) then (if (wrap64 ((a0.size : Int) - 2)) ≤ (a0.size : Int) then ((spec_l1With.f k (a0.extract 0 ((wrap64 ((a0.size : Int) - 2)) : Int).toNat)).bind fun t182 => (if t182.toList = a0.toList then (some (a0.extract 0 ((wrap64 ((a0.size : Int) - 2)) : Int).toNat, true)) else (some ((⟨#[]⟩ : ByteArray), false)))) else (none)) else (none)) = some (r1, r2) := by rw [if_pos rfl] at H; exact H
    clear H
    have H := H1
    clear H1
    obtain ⟨ji4, hji4⟩ : ∃ j_ : Int, (wrap64 ((a0.size : Int) - 2)) = j_ := ⟨_, rfl⟩
    replace H : (if 0 ≤ (ji4) then (if (ji4) ≤ (a0.size : Int) then ((spec_l1With.f k (a0.extract 0 ((ji4) : Int).toNat)).bind fun t182 => (if t182.toList = a0.toList then (some (a0.extract 0 ((ji4) : Int).toNat, true)) else (some ((⟨#[]⟩ : ByteArray), false)))) else (none)) else (none)) = some (r1, r2) := by first | (rw [hji4] at H; exact H) | (simp only [hji4] at H ⊢; exact H)
    (try rw [hji4] at A2)
    have hji4w : (IntKind.i64.wrap ((a0.size : Int) - 2)) = ji4 := (i64_w _).trans hji4
    by_cases c5 : 0 ≤ (ji4)
    · rw [if_pos c5] at H
      have c5b0 := eq_true c5
      have c5b1 : decide (0 ≤ (ji4)) = true := decide_eq_true c5
      clear c5
      by_cases c6 : (ji4) ≤ (a0.size : Int)
      · rw [if_pos c6] at H
        have c6b0 := eq_true c6
        have c6b1 : decide ((ji4) ≤ (a0.size : Int)) = true := decide_eq_true c6
        clear c6
        replace H := Option.bind_eq_some_iff.mp H
        obtain ⟨t182, A70, H⟩ := H
        replace H : (if t182.toList = a0.toList then (some (a0.extract 0 ((ji4) : Int).toNat, true)) else (some ((⟨#[]⟩ : ByteArray), false))) = some (r1, r2) := H
        have A7 := Aside0.mk A70
        clear A70
        by_cases c8 : t182.toList = a0.toList
        · rw [if_pos c8] at H
          have c8b0 : (t182.toList == a0.toList) = true := beq_iff_eq.mpr c8
          have c8b1 : (t182.toList != a0.toList) = false := bne_eq_false_iff_eq.mpr c8
          clear c8
          have c9b0 := eq_true (of_decide_eq_true (by first | (with_reducible assumption) | assumption) : 0 ≤ (ji4))
          have c10b0 := eq_true (of_decide_eq_true (by first | (with_reducible assumption) | assumption) : (ji4) ≤ (a0.size : Int))
          simp only [Option.some.injEq, Prod.mk.injEq] at H
          obtain ⟨rfl, rfl⟩ := H
          go_enter Try.func15, Try.ntmps15
          go_wp2_with (first | ((with_reducible refine gate_callee (f := 41) rfl ?_); refine goesL_ (some 10) rfl rfl Try.func41 (by kernel_rfl) rfl #[.int .i64 (a0.size : Int), .int .i64 2, .int .i64 400] rfl (by (try simp only [List.map_toArray, List.map_cons, List.map_nil]); first | done | rfl | (simp only [List.length_drop, List.length_take]; rfl)) ?_; (with_reducible refine (spec_l1In.calls (a0.size : Int) 2 400 true _ A2.out).mono ?_); rintro e w' ⟨rfl, ⟨nd, rfl⟩⟩; refine ⟨_, rfl, ?_⟩) | (go_at_call 34; (with_reducible refine (spec_l1With.calls k (a0.extract 0 ((ji4) : Int).toNat) t182 _ A7.out).mono ?_); rintro e w11 ⟨rfl, hb⟩; have n0_ := Aside0.mk (below_step (by repeat (first | (with_reducible first | exact HB.out | apply below_alloc | apply pw_below_drewN | apply below_drew1) | exact HB.out | (with_reducible exact Below.refl _ _))) hb); clear HB; have HB := n0_; clear n0_; (try clear hb); (try clear hb2); (try clear hk); (try clear hi)))
          go_ret2
          exact ⟨by first | rfl | (simp [errW_none, errW_some] <;> rfl) | (simp only [← hji4]; first | rfl | (simp [errW_none, errW_some] <;> rfl)) | (simp [*, errW_none, errW_some] <;> rfl), by repeat (first | (with_reducible first | exact HB.out | apply below_alloc | apply pw_below_drewN | apply below_drew1) | exact HB.out | (with_reducible exact Below.refl _ _))⟩
        · rw [if_neg c8] at H
          have c8b0 : (t182.toList == a0.toList) = false := beq_eq_false_iff_ne.mpr c8
          have c8b1 : (t182.toList != a0.toList) = true := bne_iff_ne.mpr c8
          simp only [Option.some.injEq, Prod.mk.injEq] at H
          obtain ⟨rfl, rfl⟩ := H
          go_enter Try.func15, Try.ntmps15
          go_wp2_with (first | ((with_reducible refine gate_callee (f := 41) rfl ?_); refine goesL_ (some 10) rfl rfl Try.func41 (by kernel_rfl) rfl #[.int .i64 (a0.size : Int), .int .i64 2, .int .i64 400] rfl (by (try simp only [List.map_toArray, List.map_cons, List.map_nil]); first | done | rfl | (simp only [List.length_drop, List.length_take]; rfl)) ?_; (with_reducible refine (spec_l1In.calls (a0.size : Int) 2 400 true _ A2.out).mono ?_); rintro e w' ⟨rfl, ⟨nd, rfl⟩⟩; refine ⟨_, rfl, ?_⟩) | (go_at_call 34; (with_reducible refine (spec_l1With.calls k (a0.extract 0 ((ji4) : Int).toNat) t182 _ A7.out).mono ?_); rintro e w12 ⟨rfl, hb⟩; have n0_ := Aside0.mk (below_step (by repeat (first | (with_reducible first | exact HB.out | apply below_alloc | apply pw_below_drewN | apply below_drew1) | exact HB.out | (with_reducible exact Below.refl _ _))) hb); clear HB; have HB := n0_; clear n0_; (try clear hb); (try clear hb2); (try clear hk); (try clear hi)))
          go_ret2
          exact ⟨by first | rfl | (simp [errW_none, errW_some] <;> rfl) | (simp only [← hji4]; first | rfl | (simp [errW_none, errW_some] <;> rfl)) | (simp [*, errW_none, errW_some] <;> rfl), by repeat (first | (with_reducible first | exact HB.out | apply below_alloc | apply pw_below_drewN | apply below_drew1) | exact HB.out | (with_reducible exact Below.refl _ _))⟩
      · rw [if_neg c6] at H
        exact absurd H (by simp)
    · rw [if_neg c5] at H
      exact absurd H (by simp)
  · replace c3 := Bool.eq_false_iff.mpr c3
    subst c3
    have H1 : (some ((⟨#[]⟩ : ByteArray), false)) = some (r1, r2) := by rw [if_neg (show ¬ (false = true) by decide)] at H; exact H
    clear H
    have H := H1
    clear H1
    simp only [Option.some.injEq, Prod.mk.injEq] at H
    obtain ⟨rfl, rfl⟩ := H
    go_enter Try.func15, Try.ntmps15
    go_wp2_with (first | ((with_reducible refine gate_callee (f := 41) rfl ?_); refine goesL_ (some 10) rfl rfl Try.func41 (by kernel_rfl) rfl #[.int .i64 (a0.size : Int), .int .i64 2, .int .i64 400] rfl (by (try simp only [List.map_toArray, List.map_cons, List.map_nil]); first | done | rfl | (simp only [List.length_drop, List.length_take]; rfl)) ?_; (with_reducible refine (spec_l1In.calls (a0.size : Int) 2 400 false _ A2.out).mono ?_); rintro e w' ⟨rfl, ⟨nd, rfl⟩⟩; refine ⟨_, rfl, ?_⟩))
    go_ret2
    exact ⟨by first | rfl | (simp [errW_none, errW_some] <;> rfl) | (simp [*, errW_none, errW_some] <;> rfl), by repeat (first | (with_reducible first | exact HB.out | apply below_alloc | apply pw_below_drewN | apply below_drew1) | exact HB.out | (with_reducible exact Below.refl _ _))⟩

/-! ### laws_FnCrc: function 3 -/
mutual
def laws_FnCrc.j0 : Nat → List Int → ByteArray → ByteArray → Bool → Int → Bool → Option (Bool)
  | 0, _, _, _, _, _, _ => none
  | k + 1, x1, x5, x6, x7, x10, x75 => if x75 = true then (some false) else (if x7 = true then ((impl_CheckCrc.f k x6).bind fun bt192 => (if bt192.2 = true then (laws_FnCrc.j1 k x1 x5 x6 x10 (bt192.1.toList != x5.toList)) else (laws_FnCrc.j1 k x1 x5 x6 x10 true))) else ((spec_DrawCheckCrc.f k x1).bind fun t209 => ((impl_CheckCrc.f k t209).bind fun bt210 => ((spec_CheckCrc.f k t209).bind fun bt212 => (if (bt210.2 == bt212.2) = true then (some (bt210.1.toList == bt212.1.toList)) else (some false))))))
def laws_FnCrc.j1 : Nat → List Int → ByteArray → ByteArray → Int → Bool → Option (Bool)
  | 0, _, _, _, _, _ => none
  | k + 1, x1, x5, x6, x10, x88 => if x88 = true then (some false) else (if x6.size ≤ 9223372036854775807 then ((some (bytesOf x6 : List Int)).bind fun y194 => ((laws_numberOf.f k x1).bind fun t197 => (if (y194.length : Int) = 0 then (none) else (if 0 ≤ (Int.tmod t197 (y194.length : Int)) then (if (Int.tmod t197 (y194.length : Int)) < (y194.length : Int) then ((impl_CheckCrc.f k (strOfNums (y194.set ((Int.tmod t197 (y194.length : Int)) : Int).toNat (Go.bits .xor .u8 (rd y194 (Int.tmod t197 (y194.length : Int))) ((wrap64 (1 + (Int.tmod t197 255))) % 256))))).bind fun bt200 => (if bt200.2 = true then (some false) else (laws_FnCrc.l0 k x1 x5 x10 65535 0))) else (none)) else (none))))) else (none))
def laws_FnCrc.l0 : Nat → List Int → ByteArray → Int → Int → Int → Option (Bool)
  | 0, _, _, _, _, _ => none
  | k + 1, x1, x5, x10, x21, x22 => if x22 < (x5.size : Int) then (if 0 ≤ x22 then ((impl_CrcAdd.f k x21 (bt x5 x22)).bind fun bt202 => (if bt202.2 = true then (laws_FnCrc.l0 k x1 x5 x10 bt202.1 (wrap64 (x22 + 1))) else (some false))) else (none)) else (if x21 = x10 then ((spec_DrawCheckCrc.f k x1).bind fun t204 => ((impl_CheckCrc.f k t204).bind fun bt205 => ((spec_CheckCrc.f k t204).bind fun bt207 => (if (bt205.2 == bt207.2) = true then (some (bt205.1.toList == bt207.1.toList)) else (some false))))) else (some false))
end
def laws_FnCrc.f (k : Nat) (l0 : List Int) (l1 : List Int) : Option (Bool) := if (wrap64 ((l0.length : Int) + (l1.length : Int))) > 1048576 then (some true) else ((spec_DrawWithCrc.f l0).bind fun t183 => ((impl_WithCrc.f k t183).bind fun bt184 => ((spec_WithCrc.f k t183).bind fun bt186 => ((impl_CrcOf.f k t183).bind fun bt188 => ((spec_CrcOf.f k t183).bind fun bt190 => (if (bt184.2 != bt186.2) = true then (laws_FnCrc.j0 k l1 t183 bt184.1 bt184.2 bt188.1 true) else (if bt184.1.toList = bt186.1.toList then (if (bt188.2 != bt190.2) = true then (laws_FnCrc.j0 k l1 t183 bt184.1 bt184.2 bt188.1 true) else (laws_FnCrc.j0 k l1 t183 bt184.1 bt184.2 bt188.1 (bt188.1 != bt190.1))) else (laws_FnCrc.j0 k l1 t183 bt184.1 bt184.2 bt188.1 true))))))))
theorem laws_FnCrc.mono_l : ∀ k, (∀ y0 y1 y2 y3 y4 y5, LeO (laws_FnCrc.j0 k y0 y1 y2 y3 y4 y5) (laws_FnCrc.j0 (k + 1) y0 y1 y2 y3 y4 y5)) ∧ (∀ y0 y1 y2 y3 y4, LeO (laws_FnCrc.j1 k y0 y1 y2 y3 y4) (laws_FnCrc.j1 (k + 1) y0 y1 y2 y3 y4)) ∧ (∀ y0 y1 y2 y3 y4, LeO (laws_FnCrc.l0 k y0 y1 y2 y3 y4) (laws_FnCrc.l0 (k + 1) y0 y1 y2 y3 y4))
  | 0 => ⟨fun _ _ _ _ _ _ r h => by simp [laws_FnCrc.j0] at h, fun _ _ _ _ _ r h => by simp [laws_FnCrc.j1] at h, fun _ _ _ _ _ r h => by simp [laws_FnCrc.l0] at h⟩
  | k + 1 => by
    obtain ⟨ih0, ih1, ih2⟩ := laws_FnCrc.mono_l k
    refine ⟨?_, ?_, ?_⟩
    · intro y0 y1 y2 y3 y4 y5
      unfold laws_FnCrc.j0
      repeat' first
      | (with_reducible exact ih0 _ _ _ _ _ _)
      | (with_reducible exact ih1 _ _ _ _ _)
      | (with_reducible exact ih2 _ _ _ _ _)
      | (with_reducible exact impl_CheckCrc.mono _ _)
      | (with_reducible exact impl_CrcAdd.mono _ _ _)
      | (with_reducible exact impl_CrcOf.mono _ _)
      | (with_reducible exact impl_WithCrc.mono _ _)
      | (with_reducible exact laws_numberOf.mono _ _)
      | (with_reducible exact spec_CheckCrc.mono _ _)
      | (with_reducible exact spec_CrcOf.mono _ _)
      | (with_reducible exact spec_DrawCheckCrc.mono _ _)
      | (with_reducible exact spec_WithCrc.mono _ _)
      | (with_reducible exact LeO.refl _)
      | (with_reducible exact LeO.none _)
      | (with_reducible refine LeO.ite ?_ ?_)
      | (with_reducible refine LeO.bind ?_ (fun _ => ?_))
      | exact ih0 _ _ _ _ _ _
      | exact ih1 _ _ _ _ _
      | exact ih2 _ _ _ _ _
      | exact impl_CheckCrc.mono _ _
      | exact impl_CrcAdd.mono _ _ _
      | exact impl_CrcOf.mono _ _
      | exact impl_WithCrc.mono _ _
      | exact laws_numberOf.mono _ _
      | exact spec_CheckCrc.mono _ _
      | exact spec_CrcOf.mono _ _
      | exact spec_DrawCheckCrc.mono _ _
      | exact spec_WithCrc.mono _ _
      | exact LeO.none _
      | refine LeO.ite ?_ ?_
      | refine LeO.bind ?_ (fun _ => ?_)
    · intro y0 y1 y2 y3 y4
      unfold laws_FnCrc.j1
      repeat' first
      | (with_reducible exact ih0 _ _ _ _ _ _)
      | (with_reducible exact ih1 _ _ _ _ _)
      | (with_reducible exact ih2 _ _ _ _ _)
      | (with_reducible exact impl_CheckCrc.mono _ _)
      | (with_reducible exact impl_CrcAdd.mono _ _ _)
      | (with_reducible exact impl_CrcOf.mono _ _)
      | (with_reducible exact impl_WithCrc.mono _ _)
      | (with_reducible exact laws_numberOf.mono _ _)
      | (with_reducible exact spec_CheckCrc.mono _ _)
      | (with_reducible exact spec_CrcOf.mono _ _)
      | (with_reducible exact spec_DrawCheckCrc.mono _ _)
      | (with_reducible exact spec_WithCrc.mono _ _)
      | (with_reducible exact LeO.refl _)
      | (with_reducible exact LeO.none _)
      | (with_reducible refine LeO.ite ?_ ?_)
      | (with_reducible refine LeO.bind ?_ (fun _ => ?_))
      | exact ih0 _ _ _ _ _ _
      | exact ih1 _ _ _ _ _
      | exact ih2 _ _ _ _ _
      | exact impl_CheckCrc.mono _ _
      | exact impl_CrcAdd.mono _ _ _
      | exact impl_CrcOf.mono _ _
      | exact impl_WithCrc.mono _ _
      | exact laws_numberOf.mono _ _
      | exact spec_CheckCrc.mono _ _
      | exact spec_CrcOf.mono _ _
      | exact spec_DrawCheckCrc.mono _ _
      | exact spec_WithCrc.mono _ _
      | exact LeO.none _
      | refine LeO.ite ?_ ?_
      | refine LeO.bind ?_ (fun _ => ?_)
    · intro y0 y1 y2 y3 y4
      unfold laws_FnCrc.l0
      repeat' first
      | (with_reducible exact ih0 _ _ _ _ _ _)
      | (with_reducible exact ih1 _ _ _ _ _)
      | (with_reducible exact ih2 _ _ _ _ _)
      | (with_reducible exact impl_CheckCrc.mono _ _)
      | (with_reducible exact impl_CrcAdd.mono _ _ _)
      | (with_reducible exact impl_CrcOf.mono _ _)
      | (with_reducible exact impl_WithCrc.mono _ _)
      | (with_reducible exact laws_numberOf.mono _ _)
      | (with_reducible exact spec_CheckCrc.mono _ _)
      | (with_reducible exact spec_CrcOf.mono _ _)
      | (with_reducible exact spec_DrawCheckCrc.mono _ _)
      | (with_reducible exact spec_WithCrc.mono _ _)
      | (with_reducible exact LeO.refl _)
      | (with_reducible exact LeO.none _)
      | (with_reducible refine LeO.ite ?_ ?_)
      | (with_reducible refine LeO.bind ?_ (fun _ => ?_))
      | exact ih0 _ _ _ _ _ _
      | exact ih1 _ _ _ _ _
      | exact ih2 _ _ _ _ _
      | exact impl_CheckCrc.mono _ _
      | exact impl_CrcAdd.mono _ _ _
      | exact impl_CrcOf.mono _ _
      | exact impl_WithCrc.mono _ _
      | exact laws_numberOf.mono _ _
      | exact spec_CheckCrc.mono _ _
      | exact spec_CrcOf.mono _ _
      | exact spec_DrawCheckCrc.mono _ _
      | exact spec_WithCrc.mono _ _
      | exact LeO.none _
      | refine LeO.ite ?_ ?_
      | refine LeO.bind ?_ (fun _ => ?_)
theorem laws_FnCrc.mono : ∀ a0 a1 k, LeO (laws_FnCrc.f k a0 a1) (laws_FnCrc.f (k + 1) a0 a1) := by
  intro a0 a1 k
  obtain ⟨ih0, ih1, ih2⟩ := laws_FnCrc.mono_l k
  unfold laws_FnCrc.f
  repeat' first
      | (with_reducible exact ih0 _ _ _ _ _ _)
      | (with_reducible exact ih1 _ _ _ _ _)
      | (with_reducible exact ih2 _ _ _ _ _)
      | (with_reducible exact impl_CheckCrc.mono _ _)
      | (with_reducible exact impl_CrcAdd.mono _ _ _)
      | (with_reducible exact impl_CrcOf.mono _ _)
      | (with_reducible exact impl_WithCrc.mono _ _)
      | (with_reducible exact laws_numberOf.mono _ _)
      | (with_reducible exact spec_CheckCrc.mono _ _)
      | (with_reducible exact spec_CrcOf.mono _ _)
      | (with_reducible exact spec_DrawCheckCrc.mono _ _)
      | (with_reducible exact spec_WithCrc.mono _ _)
      | (with_reducible exact LeO.refl _)
      | (with_reducible exact LeO.none _)
      | (with_reducible refine LeO.ite ?_ ?_)
      | (with_reducible refine LeO.bind ?_ (fun _ => ?_))
      | exact ih0 _ _ _ _ _ _
      | exact ih1 _ _ _ _ _
      | exact ih2 _ _ _ _ _
      | exact impl_CheckCrc.mono _ _
      | exact impl_CrcAdd.mono _ _ _
      | exact impl_CrcOf.mono _ _
      | exact impl_WithCrc.mono _ _
      | exact laws_numberOf.mono _ _
      | exact spec_CheckCrc.mono _ _
      | exact spec_CrcOf.mono _ _
      | exact spec_DrawCheckCrc.mono _ _
      | exact spec_WithCrc.mono _ _
      | exact LeO.none _
      | refine LeO.ite ?_ ?_
      | refine LeO.bind ?_ (fun _ => ?_)
set_option maxHeartbeats 8000000 in
set_option maxRecDepth 100000 in
theorem laws_FnCrc.calls (k : Nat) (A0 : Option Addr) (c0 : Nat) (l0 : List Int) (A1 : Option Addr) (c1 : Nat) (l1 : List Int) (r : Bool) (w : World) (hr0 : Kd.C (Kd.int .u8) w A0 l0.length l0) (hc0 : l0.length ≤ c0) (hr1 : Kd.C (Kd.int .u8) w A1 l1.length l1) (hc1 : l1.length ≤ c1) (h : laws_FnCrc.f k l0 l1 = some r) :
    Calls Try.prog 3 #[.slice A0 l0.length c0, .slice A1 l1.length c1] w fun e w' => e = .returned (.bool r) ∧ Below w.heap.size w w' := by
  have HR0 := Aside0.mk hr0
  have HC0 := Aside0.mk hc0
  clear hr0 hc0
  have HR1 := Aside0.mk hr1
  have HC1 := Aside0.mk hc1
  clear hr1 hc1
  have HB := Aside0.mk (Below.refl w.heap.size w)
  have H : (if (wrap64 ((l0.length : Int) + (l1.length : Int))) > 1048576 then (some true) else ((spec_DrawWithCrc.f l0).bind fun t183 => ((impl_WithCrc.f k t183).bind fun bt184 => ((spec_WithCrc.f k t183).bind fun bt186 => ((impl_CrcOf.f k t183).bind fun bt188 => ((spec_CrcOf.f k t183).bind fun bt190 => (if (bt184.2 != bt186.2) = true then (laws_FnCrc.j0 k l1 t183 bt184.1 bt184.2 bt188.1 true) else (if bt184.1.toList = bt186.1.toList then (if (bt188.2 != bt190.2) = true then (laws_FnCrc.j0 k l1 t183 bt184.1 bt184.2 bt188.1 true) else (laws_FnCrc.j0 k l1 t183 bt184.1 bt184.2 bt188.1 (bt188.1 != bt190.1))) else (laws_FnCrc.j0 k l1 t183 bt184.1 bt184.2 bt188.1 true))))))))) = some r := h
  clear h
  by_cases c3 : (wrap64 ((l0.length : Int) + (l1.length : Int))) > 1048576
  · rw [if_pos c3] at H
    have c3b0 : decide (1048576 < (wrap64 ((l0.length : Int) + (l1.length : Int)))) = true := decide_eq_true c3
    clear c3
    obtain rfl := Option.some.inj H
    go_enter Try.func3, Try.ntmps3
    go_wp2
    go_ret
    exact ⟨by first | rfl | (simp [errW_none, errW_some] <;> rfl) | (simp [*, errW_none, errW_some] <;> rfl), by repeat (first | (with_reducible first | exact HB.out | apply below_alloc | apply pw_below_drewN | apply below_drew1) | exact HB.out | (with_reducible exact Below.refl _ _))⟩
  · rw [if_neg c3] at H
    have c3b0 : decide (1048576 < (wrap64 ((l0.length : Int) + (l1.length : Int)))) = false := decide_eq_false c3
    clear c3
    replace H := Option.bind_eq_some_iff.mp H
    obtain ⟨t183, A40, H⟩ := H
    replace H : ((impl_WithCrc.f k t183).bind fun bt184 => ((spec_WithCrc.f k t183).bind fun bt186 => ((impl_CrcOf.f k t183).bind fun bt188 => ((spec_CrcOf.f k t183).bind fun bt190 => (if (bt184.2 != bt186.2) = true then (laws_FnCrc.j0 k l1 t183 bt184.1 bt184.2 bt188.1 true) else (if bt184.1.toList = bt186.1.toList then (if (bt188.2 != bt190.2) = true then (laws_FnCrc.j0 k l1 t183 bt184.1 bt184.2 bt188.1 true) else (laws_FnCrc.j0 k l1 t183 bt184.1 bt184.2 bt188.1 (bt188.1 != bt190.1))) else (laws_FnCrc.j0 k l1 t183 bt184.1 bt184.2 bt188.1 true))))))) = some r := H
    have A4 := Aside0.mk A40
    clear A40
    replace H := Option.bind_eq_some_iff.mp H
    obtain ⟨⟨t184, t185⟩, A50, H⟩ := H
    replace H : ((spec_WithCrc.f k t183).bind fun bt186 => ((impl_CrcOf.f k t183).bind fun bt188 => ((spec_CrcOf.f k t183).bind fun bt190 => (if (t185 != bt186.2) = true then (laws_FnCrc.j0 k l1 t183 t184 t185 bt188.1 true) else (if t184.toList = bt186.1.toList then (if (bt188.2 != bt190.2) = true then (laws_FnCrc.j0 k l1 t183 t184 t185 bt188.1 true) else (laws_FnCrc.j0 k l1 t183 t184 t185 bt188.1 (bt188.1 != bt190.1))) else (laws_FnCrc.j0 k l1 t183 t184 t185 bt188.1 true)))))) = some r := H
    have A5 := Aside0.mk A50
    clear A50
    replace H := Option.bind_eq_some_iff.mp H
    obtain ⟨⟨t186, t187⟩, A60, H⟩ := H
    replace H : ((impl_CrcOf.f k t183).bind fun bt188 => ((spec_CrcOf.f k t183).bind fun bt190 => (if (t185 != t187) = true then (laws_FnCrc.j0 k l1 t183 t184 t185 bt188.1 true) else (if t184.toList = t186.toList then (if (bt188.2 != bt190.2) = true then (laws_FnCrc.j0 k l1 t183 t184 t185 bt188.1 true) else (laws_FnCrc.j0 k l1 t183 t184 t185 bt188.1 (bt188.1 != bt190.1))) else (laws_FnCrc.j0 k l1 t183 t184 t185 bt188.1 true))))) = some r := H
    have A6 := Aside0.mk A60
    clear A60
    replace H := Option.bind_eq_some_iff.mp H
    obtain ⟨⟨t188, t189⟩, A70, H⟩ := H
    replace H : ((spec_CrcOf.f k t183).bind fun bt190 => (if (t185 != t187) = true then (laws_FnCrc.j0 k l1 t183 t184 t185 t188 true) else (if t184.toList = t186.toList then (if (t189 != bt190.2) = true then (laws_FnCrc.j0 k l1 t183 t184 t185 t188 true) else (laws_FnCrc.j0 k l1 t183 t184 t185 t188 (t188 != bt190.1))) else (laws_FnCrc.j0 k l1 t183 t184 t185 t188 true)))) = some r := H
    have A7 := Aside0.mk A70
    clear A70
    replace H := Option.bind_eq_some_iff.mp H
    obtain ⟨⟨t190, t191⟩, A80, H⟩ := H
    replace H : (if (t185 != t187) = true then (laws_FnCrc.j0 k l1 t183 t184 t185 t188 true) else (if t184.toList = t186.toList then (if (t189 != t191) = true then (laws_FnCrc.j0 k l1 t183 t184 t185 t188 true) else (laws_FnCrc.j0 k l1 t183 t184 t185 t188 (t188 != t190))) else (laws_FnCrc.j0 k l1 t183 t184 t185 t188 true))) = some r := H
    have A8 := Aside0.mk A80
    clear A80
    have HC9 := Aside0.mk H
    clear H
    go_enter Try.func3, Try.ntmps3
    go_upto_region 8 with (first | ((with_reducible refine gate_callee (f := 6) rfl ?_); refine goesL_ (some 37) rfl rfl Try.func6 (by kernel_rfl) rfl #[.slice A0 l0.length c0] rfl (by (try simp only [List.map_toArray, List.map_cons, List.map_nil]); first | done | rfl | (simp only [List.length_drop, List.length_take]; rfl)) ?_; (with_reducible refine (spec_DrawWithCrc.calls _ _ l0 t183 _ ?side1 ?side2 A4.out).mono ?_); (case side1 => repeat (first | exact HR0.out | (with_reducible refine Kd.C_alloc ?_ _) | (with_reducible refine Kd.C_drewN ?_ _) | (with_reducible refine Kd.C_drew ?_))); (case side2 => exact HC0.out); rintro e w10 ⟨rfl, hb⟩; refine ⟨_, rfl, ?_⟩; have n0_ := Aside0.mk (below_step (by repeat (first | (with_reducible first | exact HB.out | apply below_alloc | apply pw_below_drewN | apply below_drew1) | exact HB.out | (with_reducible exact Below.refl _ _))) hb); clear HB; have HB := n0_; clear n0_; (try clear hb); (try clear hb2); (try clear hk); (try clear hi)) | ((with_reducible refine gate_callee (f := 7) rfl ?_); refine goesL_ (some 40) rfl rfl Try.func7 (by kernel_rfl) rfl #[.string t183] rfl (by (try simp only [List.map_toArray, List.map_cons, List.map_nil]); first | done | rfl | (simp only [List.length_drop, List.length_take]; rfl)) ?_; (with_reducible refine (impl_WithCrc.calls k t183 t184 t185 _ A5.out).mono ?_); rintro e w11 ⟨rfl, hb⟩; refine ⟨_, rfl, ?_⟩; have n0_ := Aside0.mk (below_step (by repeat (first | (with_reducible first | exact HB.out | apply below_alloc | apply pw_below_drewN | apply below_drew1) | exact HB.out | (with_reducible exact Below.refl _ _))) hb); clear HB; have HB := n0_; clear n0_; (try clear hb); (try clear hb2); (try clear hk); (try clear hi)) | ((with_reducible refine gate_callee (f := 8) rfl ?_); refine goesL_ (some 45) rfl rfl Try.func8 (by kernel_rfl) rfl #[.string t183] rfl (by (try simp only [List.map_toArray, List.map_cons, List.map_nil]); first | done | rfl | (simp only [List.length_drop, List.length_take]; rfl)) ?_; (with_reducible refine (spec_WithCrc.calls k t183 t186 t187 _ A6.out).mono ?_); rintro e w12 ⟨rfl, hb⟩; refine ⟨_, rfl, ?_⟩; have n0_ := Aside0.mk (below_step (by repeat (first | (with_reducible first | exact HB.out | apply below_alloc | apply pw_below_drewN | apply below_drew1) | exact HB.out | (with_reducible exact Below.refl _ _))) hb); clear HB; have HB := n0_; clear n0_; (try clear hb); (try clear hb2); (try clear hk); (try clear hi)) | ((with_reducible refine gate_callee (f := 9) rfl ?_); refine goesL_ (some 50) rfl rfl Try.func9 (by kernel_rfl) rfl #[.string t183] rfl (by (try simp only [List.map_toArray, List.map_cons, List.map_nil]); first | done | rfl | (simp only [List.length_drop, List.length_take]; rfl)) ?_; (with_reducible refine (impl_CrcOf.calls k t183 t188 t189 _ A7.out).mono ?_); rintro e w' ⟨rfl, ⟨nd, rfl⟩⟩; refine ⟨_, rfl, ?_⟩) | ((with_reducible refine gate_callee (f := 10) rfl ?_); refine goesL_ (some 55) rfl rfl Try.func10 (by kernel_rfl) rfl #[.string t183] rfl (by (try simp only [List.map_toArray, List.map_cons, List.map_nil]); first | done | rfl | (simp only [List.length_drop, List.length_take]; rfl)) ?_; (with_reducible refine (spec_CrcOf.calls k t183 t190 t191 _ A8.out).mono ?_); rintro e w' ⟨rfl, ⟨nd, rfl⟩⟩; refine ⟨_, rfl, ?_⟩))
    (try simp only [Act.put, List.setIfInBounds_toArray, List.set_cons_zero, List.set_cons_succ])
    go_cut [75] (fun v75 wc => ∃ (kq : Nat) (x75_8 : Bool), v75 = .bool x75_8 ∧ Aside0 (laws_FnCrc.j0 kq l1 t183 t184 t185 t188 x75_8 = some r) ∧ Aside0 (kq ≤ k) ∧ Aside0 (Below w.heap.size w wc))
    case first =>
      have H := HC9.out
      clear HC9
      by_cases c13 : (t185 != t187) = true
      · rw [if_pos c13] at H
        have c13b0 : (t185 != t187) = true := c13
        (try (have c13b1 : decide (t185 = t187) = false := by simpa using c13))
        (try (have c13b2 : (t185 == t187) = false := by simpa using c13))
        (try (have c13b3 : ¬ (t185 = t187) := by simpa using c13))
        clear c13
        (first | rw [c13b0] | (simp only [i64_w, i32_w]; rw [c13b0]) | skip)
        have H' := Aside0.mk H
        clear H
        go_wp2
        go_meet
        case rel => exact ⟨_, (true), (by first | rfl | (simp; done) | (simp [*]; done)), H', ⟨by first | omega | exact Nat.le_refl _⟩, ⟨by repeat (first | (with_reducible first | exact HB.out | apply below_alloc | apply pw_below_drewN | apply below_drew1) | exact HB.out | (with_reducible exact Below.refl _ _))⟩⟩
      · rw [if_neg c13] at H
        have c13b0 : (t185 != t187) = false := by simpa using c13
        (try (have c13b1 : decide (t185 = t187) = true := by simpa using c13))
        (try (have c13b2 : (t185 == t187) = true := by simpa using c13))
        clear c13
        (first | rw [c13b0] | (simp only [i64_w, i32_w]; rw [c13b0]) | skip)
        by_cases c14 : t184.toList = t186.toList
        · rw [if_pos c14] at H
          have c14b0 : (t184.toList == t186.toList) = true := beq_iff_eq.mpr c14
          have c14b1 : (t184.toList != t186.toList) = false := bne_eq_false_iff_eq.mpr c14
          clear c14
          by_cases c15 : (t189 != t191) = true
          · rw [if_pos c15] at H
            have c15b0 : (t189 != t191) = true := c15
            (try (have c15b1 : decide (t189 = t191) = false := by simpa using c15))
            (try (have c15b2 : (t189 == t191) = false := by simpa using c15))
            (try (have c15b3 : ¬ (t189 = t191) := by simpa using c15))
            clear c15
            have H' := Aside0.mk H
            clear H
            go_wp2
            go_meet
            case rel => exact ⟨_, (true), (by first | rfl | (simp; done) | (simp [*]; done)), H', ⟨by first | omega | exact Nat.le_refl _⟩, ⟨by repeat (first | (with_reducible first | exact HB.out | apply below_alloc | apply pw_below_drewN | apply below_drew1) | exact HB.out | (with_reducible exact Below.refl _ _))⟩⟩
          · rw [if_neg c15] at H
            have c15b0 : (t189 != t191) = false := by simpa using c15
            (try (have c15b1 : decide (t189 = t191) = true := by simpa using c15))
            (try (have c15b2 : (t189 == t191) = true := by simpa using c15))
            clear c15
            have H' := Aside0.mk H
            clear H
            go_wp2
            go_meet
            case rel => exact ⟨_, ((t188 != t190)), (by first | rfl | (simp; done) | (simp [*]; done)), H', ⟨by first | omega | exact Nat.le_refl _⟩, ⟨by repeat (first | (with_reducible first | exact HB.out | apply below_alloc | apply pw_below_drewN | apply below_drew1) | exact HB.out | (with_reducible exact Below.refl _ _))⟩⟩
        · rw [if_neg c14] at H
          have c14b0 : (t184.toList == t186.toList) = false := beq_eq_false_iff_ne.mpr c14
          have c14b1 : (t184.toList != t186.toList) = true := bne_iff_ne.mpr c14
          have H' := Aside0.mk H
          clear H
          go_wp2
          go_meet
          case rel => exact ⟨_, (true), (by first | rfl | (simp; done) | (simp [*]; done)), H', ⟨by first | omega | exact Nat.le_refl _⟩, ⟨by repeat (first | (with_reducible first | exact HB.out | apply below_alloc | apply pw_below_drewN | apply below_drew1) | exact HB.out | (with_reducible exact Below.refl _ _))⟩⟩
    case rest =>
      clear HC9
      try clear c1
      try clear p2
      try clear c3
      try clear c3b0
      try clear c6
      try clear p6
      try clear c7
      try clear c8
      try clear c9
      try clear c10
      try clear c13
      try clear c13b0
      try clear c13b1
      try clear c13b2
      try clear c14
      try clear c14b0
      try clear c14b1
      try clear c15
      try clear c15b0
      try clear c15b1
      try clear c15b2
      obtain ⟨kq, x75_8, rfl, HA, HJ8, HB⟩ := hcut
      cases kq with
      | zero => exact absurd HA.out (by simp [laws_FnCrc.j0])
      | succ kj8 =>
        have H := HA.out
        clear HA
        simp only [laws_FnCrc.j0] at H
        by_cases c16 : x75_8 = true
        · subst c16
          have H1 : (some false) = some r := by rw [if_pos rfl] at H; exact H
          clear H
          have H := H1
          clear H1
          obtain rfl := Option.some.inj H
          go_wp2
          go_ret
          exact ⟨by first | rfl | (simp [errW_none, errW_some] <;> rfl) | (simp [*, errW_none, errW_some] <;> rfl), by repeat (first | (with_reducible first | exact HB.out | apply below_alloc | apply pw_below_drewN | apply below_drew1) | exact HB.out | (with_reducible exact Below.refl _ _))⟩
        · replace c16 := Bool.eq_false_iff.mpr c16
          subst c16
          have H1 : (if t185 = true then ((impl_CheckCrc.f kj8 t184).bind fun bt192 => (if bt192.2 = true then (laws_FnCrc.j1 kj8 l1 t183 t184 t188 (bt192.1.toList != t183.toList)) else (laws_FnCrc.j1 kj8 l1 t183 t184 t188 true))) else ((spec_DrawCheckCrc.f kj8 l1).bind fun t209 => ((impl_CheckCrc.f kj8 t209).bind fun bt210 => ((spec_CheckCrc.f kj8 t209).bind fun bt212 => (if (bt210.2 == bt212.2) = true then (some (bt210.1.toList == bt212.1.toList)) else (some false)))))) = some r := by rw [if_neg (show ¬ (false = true) by decide)] at H; exact H
          clear H
          have H := H1
          clear H1
          by_cases c17 : t185 = true
          · subst c17
            have H1 : ((impl_CheckCrc.f kj8 t184).bind fun bt192 => (if bt192.2 = true then (laws_FnCrc.j1 kj8 l1 t183 t184 t188 (bt192.1.toList != t183.toList)) else (laws_FnCrc.j1 kj8 l1 t183 t184 t188 true))) = some r := by rw [if_pos rfl] at H; exact H
            clear H
            have H := H1
            clear H1
            replace H := Option.bind_eq_some_iff.mp H
            obtain ⟨⟨t192, t193⟩, A180, H⟩ := H
            replace H : (if t193 = true then (laws_FnCrc.j1 kj8 l1 t183 t184 t188 (t192.toList != t183.toList)) else (laws_FnCrc.j1 kj8 l1 t183 t184 t188 true)) = some r := H
            have A18 := Aside0.mk A180
            clear A180
            have HC19 := Aside0.mk H
            clear H
            go_upto_region 12 with (first | ((with_reducible refine gate_callee (f := 11) rfl ?_); refine goesL_ (some 79) rfl rfl Try.func11 (by kernel_rfl) rfl #[.string t184] rfl (by (try simp only [List.map_toArray, List.map_cons, List.map_nil]); first | done | rfl | (simp only [List.length_drop, List.length_take]; rfl)) ?_; (with_reducible refine (impl_CheckCrc.calls kj8 t184 t192 t193 _ A18.out).mono ?_); rintro e w20 ⟨rfl, hb⟩; refine ⟨_, rfl, ?_⟩; have n0_ := Aside0.mk (below_step (by repeat (first | (with_reducible first | exact HB.out | apply below_alloc | apply pw_below_drewN | apply below_drew1) | exact HB.out | (with_reducible exact Below.refl _ _))) hb); clear HB; have HB := n0_; clear n0_; (try clear hb); (try clear hb2); (try clear hk); (try clear hi)))
            (try simp only [Act.put, List.setIfInBounds_toArray, List.set_cons_zero, List.set_cons_succ])
            go_cut [88] (fun v88 wc => ∃ (kq : Nat) (x88_18 : Bool), v88 = .bool x88_18 ∧ Aside0 (laws_FnCrc.j1 kq l1 t183 t184 t188 x88_18 = some r) ∧ Aside0 (kq ≤ kj8) ∧ Aside0 (Below w.heap.size w wc))
            case first =>
              have H := HC19.out
              clear HC19
              by_cases c21 : t193 = true
              · subst c21
                have H1 : (laws_FnCrc.j1 kj8 l1 t183 t184 t188 (t192.toList != t183.toList)) = some r := by rw [if_pos rfl] at H; exact H
                clear H
                have H := H1
                clear H1
                have H' := Aside0.mk H
                clear H
                go_wp2
                go_meet
                case rel => exact ⟨_, ((t192.toList != t183.toList)), (by first | rfl | (simp; done) | (simp [*]; done)), H', ⟨by have := HJ8.out; first | omega | exact Nat.le_refl _⟩, ⟨by repeat (first | (with_reducible first | exact HB.out | apply below_alloc | apply pw_below_drewN | apply below_drew1) | exact HB.out | (with_reducible exact Below.refl _ _))⟩⟩
              · replace c21 := Bool.eq_false_iff.mpr c21
                subst c21
                have H1 : (laws_FnCrc.j1 kj8 l1 t183 t184 t188 true) = some r := by rw [if_neg (show ¬ (false = true) by decide)] at H; exact H
                clear H
                have H := H1
                clear H1
                have H' := Aside0.mk H
                clear H
                go_wp2
                go_meet
                case rel => exact ⟨_, (true), (by first | rfl | (simp; done) | (simp [*]; done)), H', ⟨by have := HJ8.out; first | omega | exact Nat.le_refl _⟩, ⟨by repeat (first | (with_reducible first | exact HB.out | apply below_alloc | apply pw_below_drewN | apply below_drew1) | exact HB.out | (with_reducible exact Below.refl _ _))⟩⟩
            case rest =>
              clear HC19
              try clear c1
              try clear c2
              try clear p2
              try clear c3
              try clear c3b0
              try clear c6
              try clear p6
              try clear c7
              try clear c8
              try clear c9
              try clear c10
              try clear c11
              try clear c13
              try clear c13b0
              try clear c13b1
              try clear c13b2
              try clear c14
              try clear c14b0
              try clear c14b1
              try clear c15
              try clear c15b0
              try clear c15b1
              try clear c15b2
              try clear c16
              try clear c17
              try clear c21
              try clear p2
              try clear p6
              obtain ⟨kq, x88_18, rfl, HA, HJ18, HB⟩ := hcut
              cases kq with
              | zero => exact absurd HA.out (by simp [laws_FnCrc.j1])
              | succ kj18 =>
                have H := HA.out
                clear HA
                simp only [laws_FnCrc.j1] at H
                by_cases c22 : x88_18 = true
                · subst c22
                  have H1 : (some false) = some r := by rw [if_pos rfl] at H; exact H
                  clear H
                  have H := H1
                  clear H1
                  obtain rfl := Option.some.inj H
                  go_wp2
                  go_ret
                  exact ⟨by first | rfl | (simp [errW_none, errW_some] <;> rfl) | (simp [*, errW_none, errW_some] <;> rfl), by repeat (first | (with_reducible first | exact HB.out | apply below_alloc | apply pw_below_drewN | apply below_drew1) | exact HB.out | (with_reducible exact Below.refl _ _))⟩
                · replace c22 := Bool.eq_false_iff.mpr c22
                  subst c22
                  have H1 : (if t184.size ≤ 9223372036854775807 then ((some (bytesOf t184 : List Int)).bind fun y194 => ((laws_numberOf.f kj18 l1).bind fun t197 => (if (y194.length : Int) = 0 then (none) else (if 0 ≤ (Int.tmod t197 (y194.length : Int)) then (if (Int.tmod t197 (y194.length : Int)) < (y194.length : Int) then ((impl_CheckCrc.f kj18 (strOfNums (y194.set ((Int.tmod t197 (y194.length : Int)) : Int).toNat (Go.bits .xor .u8 (rd y194 (Int.tmod t197 (y194.length : Int))) ((wrap64 (1 + (Int.tmod t197 255))) % 256))))).bind fun bt200 => (if bt200.2 = true then (some false) else (laws_FnCrc.l0 kj18 l1 t183 t188 65535 0))) else (none)) else (none))))) else (none)) = some r := by rw [if_neg (show ¬ (false = true) by decide)] at H; exact H
                  clear H
                  have H := H1
                  clear H1
                  by_cases c23 : t184.size ≤ 9223372036854775807
                  · rw [if_pos c23] at H
                    have c23b0 := eq_true c23
                    have c23b1 : decide (t184.size ≤ 9223372036854775807) = true := decide_eq_true c23
                    try have c23b2 : (9223372036854775807 < t184.size) = False := eq_false (Nat.not_lt.2 c23)
                    clear c23
                    obtain ⟨y194, hy194⟩ : ∃ y_ : List Int, y_ = (bytesOf t184) := ⟨_, rfl⟩
                    replace H : ((laws_numberOf.f kj18 l1).bind fun t197 => (if (y194.length : Int) = 0 then (none) else (if 0 ≤ (Int.tmod t197 (y194.length : Int)) then (if (Int.tmod t197 (y194.length : Int)) < (y194.length : Int) then ((impl_CheckCrc.f kj18 (strOfNums (y194.set ((Int.tmod t197 (y194.length : Int)) : Int).toNat (Go.bits .xor .u8 (rd y194 (Int.tmod t197 (y194.length : Int))) ((wrap64 (1 + (Int.tmod t197 255))) % 256))))).bind fun bt200 => (if bt200.2 = true then (some false) else (laws_FnCrc.l0 kj18 l1 t183 t188 65535 0))) else (none)) else (none)))) = some r := by first | (rw [hy194]; with_reducible exact H) | (have H2_ := (Option.bind_some _ _).symm.trans H; rw [hy194]; with_reducible exact H2_) | (have H2_ := (Option.bind_some _ _).symm.trans H; with_reducible exact H2_) | with_reducible exact H | (rw [hy194]; exact H) | exact H
                    have Ny194 := Aside0.mk hy194
                    clear hy194
                    replace H := Option.bind_eq_some_iff.mp H
                    obtain ⟨t197, A240, H⟩ := H
                    replace H : (if (y194.length : Int) = 0 then (none) else (if 0 ≤ (Int.tmod t197 (y194.length : Int)) then (if (Int.tmod t197 (y194.length : Int)) < (y194.length : Int) then ((impl_CheckCrc.f kj18 (strOfNums (y194.set ((Int.tmod t197 (y194.length : Int)) : Int).toNat (Go.bits .xor .u8 (rd y194 (Int.tmod t197 (y194.length : Int))) ((wrap64 (1 + (Int.tmod t197 255))) % 256))))).bind fun bt200 => (if bt200.2 = true then (some false) else (laws_FnCrc.l0 kj18 l1 t183 t188 65535 0))) else (none)) else (none))) = some r := H
                    have A24 := Aside0.mk A240
                    clear A240
                    by_cases c25 : (y194.length : Int) = 0
                    · rw [if_pos c25] at H
                      exact absurd H (by simp)
                    · rw [if_neg c25] at H
                      have c25b0 : ((y194.length : Int) == 0) = false := beq_eq_false_iff_ne.mpr c25
                      have c25b1 : ((y194.length : Int) != 0) = true := bne_iff_ne.mpr c25
                      have c25b2 : ¬ (y194 = []) := fun h_ => c25 (by rw [h_]; rfl)
                      obtain ⟨ji26, hji26⟩ : ∃ j_ : Int, (Int.tmod t197 (y194.length : Int)) = j_ := ⟨_, rfl⟩
                      replace H : (if 0 ≤ (ji26) then (if (ji26) < (y194.length : Int) then ((impl_CheckCrc.f kj18 (strOfNums (y194.set ((ji26) : Int).toNat (Go.bits .xor .u8 (rd y194 (ji26)) ((wrap64 (1 + (Int.tmod t197 255))) % 256))))).bind fun bt200 => (if bt200.2 = true then (some false) else (laws_FnCrc.l0 kj18 l1 t183 t188 65535 0))) else (none)) else (none)) = some r := by first | (rw [hji26] at H; exact H) | (simp only [hji26] at H ⊢; exact H)
                      (try rw [hji26] at A24)
                      by_cases c27 : 0 ≤ (ji26)
                      · rw [if_pos c27] at H
                        have c27b0 : decide (0 ≤ (ji26)) = true := decide_eq_true c27
                        clear c27
                        by_cases c28 : (ji26) < (y194.length : Int)
                        · rw [if_pos c28] at H
                          have c28b0 : decide ((ji26) < (y194.length : Int)) = true := decide_eq_true c28
                          clear c28
                          obtain ⟨y199, hy199⟩ : ∃ y_ : List Int, y_ = (y194.set ((ji26) : Int).toNat (Go.bits .xor .u8 (rd y194 (ji26)) ((wrap64 (1 + (Int.tmod t197 255))) % 256))) := ⟨_, rfl⟩
                          replace H : ((impl_CheckCrc.f kj18 (strOfNums y199)).bind fun bt200 => (if bt200.2 = true then (some false) else (laws_FnCrc.l0 kj18 l1 t183 t188 65535 0))) = some r := by first | (rw [hy199]; with_reducible exact H) | (have H2_ := (Option.bind_some _ _).symm.trans H; rw [hy199]; with_reducible exact H2_) | (have H2_ := (Option.bind_some _ _).symm.trans H; with_reducible exact H2_) | with_reducible exact H | (rw [hy199]; exact H) | exact H
                          have Ny199 := Aside0.mk hy199
                          clear hy199
                          replace H := Option.bind_eq_some_iff.mp H
                          obtain ⟨⟨t200, t201⟩, A300, H⟩ := H
                          replace H : (if t201 = true then (some false) else (laws_FnCrc.l0 kj18 l1 t183 t188 65535 0)) = some r := H
                          have A30 := Aside0.mk A300
                          clear A300
                          by_cases c31 : t201 = true
                          · subst c31
                            have H1 : (some false) = some r := by rw [if_pos rfl] at H; exact H
                            clear H
                            have H := H1
                            clear H1
                            obtain rfl := Option.some.inj H
                            go_wp2_with (first | ((with_reducible refine gate_dst (N := 90) rfl ?_); refine Kd.V_convB _ 5 rfl (N' := 90) rfl 9 22 _ rfl t184 (by first | rfl | (go_simp; done) | (go_simp; rfl)) Try.underlying9 Try.underlying22 Try.underlying5 (of_decide_eq_true (by first | (with_reducible assumption) | assumption)) (ok := fun k_ => wc.heap.size ≤ k_) (Nat.le_refl _) (Below.refl _ _) (Nat.le_refl _) Ny194.out ?_; intro gocv34 cocv34 obcv34 w32 ho33 hob hfr hge hb hg_; clear hg_; have n0_ := Aside0.mk (Kd.V_lower (Kd.V_mono (ok' := fun k_ => True) ho33 (fun k_ hk_ => trivial)) (below_size (by repeat (first | (with_reducible first | exact HB.out | apply below_alloc | apply pw_below_drewN | apply below_drew1) | exact HB.out | (with_reducible exact Below.refl _ _))))); have n1_ := Aside0.mk (below_step (by repeat (first | (with_reducible first | exact HB.out | apply below_alloc | apply pw_below_drewN | apply below_drew1) | exact HB.out | (with_reducible exact Below.refl _ _))) hb); have n2_ := Aside0.mk (hob); have n3_ := Aside0.mk (hfr); have n4_ := Aside0.mk ((by rw [hge]; exact (below_size (by repeat (first | (with_reducible first | exact HB.out | apply below_alloc | apply pw_below_drewN | apply below_drew1) | exact HB.out | (with_reducible exact Below.refl _ _)))) : w.heap.size ≤ gocv34)); have n5_ := Aside0.mk ((by rw [hge]; exact (below_size (by repeat (first | (with_reducible first | exact HB.out | apply below_alloc | apply pw_below_drewN | apply below_drew1) | exact HB.out | (with_reducible exact Below.refl _ _)))) : w.heap.size ≤ gocv34)); have n6_ := Aside0.mk ((by rw [hge]; exact (below_size (by repeat (first | (with_reducible first | exact HB.out | apply below_alloc | apply pw_below_drewN | apply below_drew1) | exact HB.out | (with_reducible exact Below.refl _ _)))) : w.heap.size ≤ gocv34)); clear HB; have HO196 := n0_; have HB := n1_; have BCcv34 := n2_; have FCcv34 := n3_; have GBcv34 := n4_; have GW70090 := n5_; have GE70090 := n6_; clear n0_ n1_ n2_ n3_ n4_ n5_ n6_; clear hb ho33 hob hfr hge) | ((with_reducible refine gate_callee (f := 12) rfl ?_); refine goesL_ (some 92) rfl rfl Try.func12 (by kernel_rfl) rfl #[.slice A1 l1.length c1] rfl (by (try simp only [List.map_toArray, List.map_cons, List.map_nil]); first | done | rfl | (simp only [List.length_drop, List.length_take]; rfl)) ?_; (with_reducible refine (laws_numberOf.calls kj18 _ _ l1 t197 _ ?side1 ?side2 A24.out).mono ?_); (case side1 => repeat (first | exact (Kd.C_below HR1.out HB.out) | (with_reducible refine Kd.C_alloc ?_ _) | (with_reducible refine Kd.C_drewN ?_ _) | (with_reducible refine Kd.C_drew ?_))); (case side2 => exact HC1.out); rintro e w' ⟨rfl, ⟨nd, rfl⟩⟩; refine ⟨_, rfl, ?_⟩; (try (rw [drewN_self w32]; generalize hq_ : World.drewN w32 _ = w32; have n0_ : Aside0 (Kd.V (Kd.int .u8) 5 w32 w.heap.size (fun _ => True) (.slice (some ⟨gocv34, 0, none⟩) y194.length cocv34) y194) := ⟨by rw [← hq_]; exact (by (with_reducible repeat (first | apply Kd.V_alloc | apply Kd.V_drewN | apply Kd.V_drew)); exact HO196.out)⟩; have n1_ : Aside0 (w32.heap[gocv34]? = some (obcv34)) := ⟨by rw [← hq_]; exact (by (with_reducible repeat (first | refine blk_drewN ?_ _ | refine blk_drew ?_ | refine blk_alloc ?_ _)); exact BCcv34.out)⟩; have n2_ : Aside0 (Below w.heap.size w w32) := ⟨by rw [← hq_]; exact (by repeat (first | (with_reducible first | exact HB.out | apply below_alloc | apply pw_below_drewN | apply below_drew1 | refine below_set ?_ GE70090.out) | exact HB.out | (with_reducible exact Below.refl _ _)))⟩; clear HO196 BCcv34 HB hq_; have HO196 := n0_; have BCcv34 := n1_; have HB := n2_; clear n0_ n1_ n2_)); have p198 : 0 ≤ ((ji26) : Int) := of_decide_eq_true (by first | (with_reducible assumption) | assumption); have q198 : (ji26) < (y194.length : Int) := of_decide_eq_true (by first | (with_reducible assumption) | assumption); obtain ⟨ad198, e198, hx198_0⟩ := Kd.at_int (Kd.V_reads' HO196.out).2.2 (ji26) p198 q198; obtain rfl : (⟨gocv34, 0, none⟩ : Addr) = ad198 := (by injection e198); (first | simp only [add_plain] at hx198_0 | simp only [add_at] at hx198_0 | simp only [Addr.add, Nat.zero_add] at hx198_0 | skip); replace p198 := eq_true p198; replace q198 := eq_true q198; have p29 : 0 ≤ ((ji26) : Int) := of_decide_eq_true (by first | (with_reducible assumption) | assumption); have q29 : ((ji26) : Int) < ((y194.length : Int) : Int) := of_decide_eq_true (by first | (with_reducible assumption) | assumption); obtain ⟨hx29_0, hf29_0⟩ := Kd.V_cellb 0 (HO196.out) BCcv34.out FCcv34.out ((ji26) : Int) p29 q29; replace p29 := eq_true p29; replace q29 := eq_true q29; obtain ⟨hy35_, hz35_⟩ := Kd.V_cellb 0 HO196.out BCcv34.out FCcv34.out ((ji26) : Int) (of_decide_eq_true (by first | (with_reducible assumption) | assumption)) (of_decide_eq_true (by first | (with_reducible assumption) | assumption)); have HP35 := Kd.V_putb HO196.out BCcv34.out FCcv34.out ((ji26) : Int) (of_decide_eq_true (by first | (with_reducible assumption) | assumption)) (by have h_ : ((ji26) : Int) < ((y194.length : Int) : Int) := of_decide_eq_true (by first | (with_reducible assumption) | assumption); first | exact h_ | (have e_ := (Kd.V_reads' HO196.out).1; omega) | simpa using h_) (Go.bits .xor .u8 (rd y194 (ji26)) ((wrap64 (1 + (Int.tmod t197 255))) % 256))) | ((with_reducible refine gate_store (t := 5) (p := 106) rfl ?_); refine store_event (t := 5) (p := 106) (v := ?vo_w36) (w1 := (w32.setCell ⟨gocv34, ((ji26) : Int).toNat, none⟩ (.int .u8 (Go.bits .xor .u8 (rd y194 (ji26)) ((wrap64 (1 + (Int.tmod t197 255))) % 256))))) ?hg ?ho ?hn ?hr ?_; (case ho => rfl); (case hg => rfl); (case hn => rfl); (case hr => first | (go_simp; done) | (go_simp; rfl)); intro w36 hw; have hg : w32.grownBy w36 (some gocv34) := (by rw [hw]; exact HP35.2); have hp_ : Kd.V (Kd.int .u8) 5 w36 w.heap.size (fun _ => True) (.slice (some ⟨gocv34, 0, none⟩) y194.length cocv34) y199 := (by rw [hw, Ny199.out]; exact HP35.1); clear HP35; have n0_ := Aside0.mk (hp_); have n1_ := Aside0.mk ((by rw [hw]; exact below_set (HB.out) GBcv34.out : Below w.heap.size w w36)); clear HO196; clear HB; clear BCcv34; have HO196 := n0_; have HB := n1_; clear n0_ n1_; clear hg hw hp_; have hcv37 := Kd.C_string (P := Try.prog) (A := some ⟨gocv34, 0, none⟩) (c := cocv34) Try.underlying22 Try.underlying5 Try.underlying9 (Kd.V_reads' HO196.out).2.2; rw [← (Kd.V_reads' HO196.out).1] at hcv37) | ((with_reducible refine gate_callee (f := 11) rfl ?_); refine goesL_ (some 110) rfl rfl Try.func11 (by kernel_rfl) rfl #[.string (strOfNums y199)] rfl (by (try simp only [List.map_toArray, List.map_cons, List.map_nil]); first | done | rfl | (simp only [List.length_drop, List.length_take]; rfl)) ?_; (with_reducible refine (impl_CheckCrc.calls kj18 (strOfNums y199) t200 true _ A30.out).mono ?_); rintro e w38 ⟨rfl, hb⟩; refine ⟨_, rfl, ?_⟩; have n0_ := Aside0.mk (Kd.V_below (by (with_reducible repeat (first | apply Kd.V_alloc | apply Kd.V_drewN | apply Kd.V_drew)); exact HO196.out) hb); have n1_ := Aside0.mk (below_step (by repeat (first | (with_reducible first | exact HB.out | apply below_alloc | apply pw_below_drewN | apply below_drew1) | exact HB.out | (with_reducible exact Below.refl _ _))) hb); clear HO196; clear HB; have HO196 := n0_; have HB := n1_; clear n0_ n1_; (try clear hb); (try clear hb2); (try clear hk); (try clear hi)))
                            go_ret
                            exact ⟨by first | rfl | (simp [errW_none, errW_some] <;> rfl) | (simp only [← hji26]; first | rfl | (simp [errW_none, errW_some] <;> rfl)) | (simp [*, errW_none, errW_some] <;> rfl), by repeat (first | (with_reducible first | exact HB.out | apply below_alloc | apply pw_below_drewN | apply below_drew1) | exact HB.out | (with_reducible exact Below.refl _ _))⟩
                          · replace c31 := Bool.eq_false_iff.mpr c31
                            subst c31
                            have H1 : (laws_FnCrc.l0 kj18 l1 t183 t188 65535 0) = some r := by rw [if_neg (show ¬ (false = true) by decide)] at H; exact H
                            clear H
                            have H := H1
                            clear H1
                            have H' := Aside0.mk H
                            clear H
                            go_wp2_with (first | ((with_reducible refine gate_dst (N := 90) rfl ?_); refine Kd.V_convB _ 5 rfl (N' := 90) rfl 9 22 _ rfl t184 (by first | rfl | (go_simp; done) | (go_simp; rfl)) Try.underlying9 Try.underlying22 Try.underlying5 (of_decide_eq_true (by first | (with_reducible assumption) | assumption)) (ok := fun k_ => wc.heap.size ≤ k_) (Nat.le_refl _) (Below.refl _ _) (Nat.le_refl _) Ny194.out ?_; intro gocv41 cocv41 obcv41 w39 ho40 hob hfr hge hb hg_; clear hg_; have n0_ := Aside0.mk (Kd.V_lower (Kd.V_mono (ok' := fun k_ => True) ho40 (fun k_ hk_ => trivial)) (below_size (by repeat (first | (with_reducible first | exact HB.out | apply below_alloc | apply pw_below_drewN | apply below_drew1) | exact HB.out | (with_reducible exact Below.refl _ _))))); have n1_ := Aside0.mk (below_step (by repeat (first | (with_reducible first | exact HB.out | apply below_alloc | apply pw_below_drewN | apply below_drew1) | exact HB.out | (with_reducible exact Below.refl _ _))) hb); have n2_ := Aside0.mk (hob); have n3_ := Aside0.mk (hfr); have n4_ := Aside0.mk ((by rw [hge]; exact (below_size (by repeat (first | (with_reducible first | exact HB.out | apply below_alloc | apply pw_below_drewN | apply below_drew1) | exact HB.out | (with_reducible exact Below.refl _ _)))) : w.heap.size ≤ gocv41)); have n5_ := Aside0.mk ((by rw [hge]; exact (below_size (by repeat (first | (with_reducible first | exact HB.out | apply below_alloc | apply pw_below_drewN | apply below_drew1) | exact HB.out | (with_reducible exact Below.refl _ _)))) : w.heap.size ≤ gocv41)); have n6_ := Aside0.mk ((by rw [hge]; exact (below_size (by repeat (first | (with_reducible first | exact HB.out | apply below_alloc | apply pw_below_drewN | apply below_drew1) | exact HB.out | (with_reducible exact Below.refl _ _)))) : w.heap.size ≤ gocv41)); clear HB; have HO196 := n0_; have HB := n1_; have BCcv41 := n2_; have FCcv41 := n3_; have GBcv41 := n4_; have GW70090 := n5_; have GE70090 := n6_; clear n0_ n1_ n2_ n3_ n4_ n5_ n6_; clear hb ho40 hob hfr hge) | ((with_reducible refine gate_callee (f := 12) rfl ?_); refine goesL_ (some 92) rfl rfl Try.func12 (by kernel_rfl) rfl #[.slice A1 l1.length c1] rfl (by (try simp only [List.map_toArray, List.map_cons, List.map_nil]); first | done | rfl | (simp only [List.length_drop, List.length_take]; rfl)) ?_; (with_reducible refine (laws_numberOf.calls kj18 _ _ l1 t197 _ ?side1 ?side2 A24.out).mono ?_); (case side1 => repeat (first | exact (Kd.C_below HR1.out HB.out) | (with_reducible refine Kd.C_alloc ?_ _) | (with_reducible refine Kd.C_drewN ?_ _) | (with_reducible refine Kd.C_drew ?_))); (case side2 => exact HC1.out); rintro e w' ⟨rfl, ⟨nd, rfl⟩⟩; refine ⟨_, rfl, ?_⟩; (try (rw [drewN_self w39]; generalize hq_ : World.drewN w39 _ = w39; have n0_ : Aside0 (Kd.V (Kd.int .u8) 5 w39 w.heap.size (fun _ => True) (.slice (some ⟨gocv41, 0, none⟩) y194.length cocv41) y194) := ⟨by rw [← hq_]; exact (by (with_reducible repeat (first | apply Kd.V_alloc | apply Kd.V_drewN | apply Kd.V_drew)); exact HO196.out)⟩; have n1_ : Aside0 (w39.heap[gocv41]? = some (obcv41)) := ⟨by rw [← hq_]; exact (by (with_reducible repeat (first | refine blk_drewN ?_ _ | refine blk_drew ?_ | refine blk_alloc ?_ _)); exact BCcv41.out)⟩; have n2_ : Aside0 (Below w.heap.size w w39) := ⟨by rw [← hq_]; exact (by repeat (first | (with_reducible first | exact HB.out | apply below_alloc | apply pw_below_drewN | apply below_drew1 | refine below_set ?_ GE70090.out) | exact HB.out | (with_reducible exact Below.refl _ _)))⟩; clear HO196 BCcv41 HB hq_; have HO196 := n0_; have BCcv41 := n1_; have HB := n2_; clear n0_ n1_ n2_)); have p198 : 0 ≤ ((ji26) : Int) := of_decide_eq_true (by first | (with_reducible assumption) | assumption); have q198 : (ji26) < (y194.length : Int) := of_decide_eq_true (by first | (with_reducible assumption) | assumption); obtain ⟨ad198, e198, hx198_0⟩ := Kd.at_int (Kd.V_reads' HO196.out).2.2 (ji26) p198 q198; obtain rfl : (⟨gocv41, 0, none⟩ : Addr) = ad198 := (by injection e198); (first | simp only [add_plain] at hx198_0 | simp only [add_at] at hx198_0 | simp only [Addr.add, Nat.zero_add] at hx198_0 | skip); replace p198 := eq_true p198; replace q198 := eq_true q198; have p29 : 0 ≤ ((ji26) : Int) := of_decide_eq_true (by first | (with_reducible assumption) | assumption); have q29 : ((ji26) : Int) < ((y194.length : Int) : Int) := of_decide_eq_true (by first | (with_reducible assumption) | assumption); obtain ⟨hx29_0, hf29_0⟩ := Kd.V_cellb 0 (HO196.out) BCcv41.out FCcv41.out ((ji26) : Int) p29 q29; replace p29 := eq_true p29; replace q29 := eq_true q29; obtain ⟨hy42_, hz42_⟩ := Kd.V_cellb 0 HO196.out BCcv41.out FCcv41.out ((ji26) : Int) (of_decide_eq_true (by first | (with_reducible assumption) | assumption)) (of_decide_eq_true (by first | (with_reducible assumption) | assumption)); have HP42 := Kd.V_putb HO196.out BCcv41.out FCcv41.out ((ji26) : Int) (of_decide_eq_true (by first | (with_reducible assumption) | assumption)) (by have h_ : ((ji26) : Int) < ((y194.length : Int) : Int) := of_decide_eq_true (by first | (with_reducible assumption) | assumption); first | exact h_ | (have e_ := (Kd.V_reads' HO196.out).1; omega) | simpa using h_) (Go.bits .xor .u8 (rd y194 (ji26)) ((wrap64 (1 + (Int.tmod t197 255))) % 256))) | ((with_reducible refine gate_store (t := 5) (p := 106) rfl ?_); refine store_event (t := 5) (p := 106) (v := ?vo_w43) (w1 := (w39.setCell ⟨gocv41, ((ji26) : Int).toNat, none⟩ (.int .u8 (Go.bits .xor .u8 (rd y194 (ji26)) ((wrap64 (1 + (Int.tmod t197 255))) % 256))))) ?hg ?ho ?hn ?hr ?_; (case ho => rfl); (case hg => rfl); (case hn => rfl); (case hr => first | (go_simp; done) | (go_simp; rfl)); intro w43 hw; have hg : w39.grownBy w43 (some gocv41) := (by rw [hw]; exact HP42.2); have hp_ : Kd.V (Kd.int .u8) 5 w43 w.heap.size (fun _ => True) (.slice (some ⟨gocv41, 0, none⟩) y194.length cocv41) y199 := (by rw [hw, Ny199.out]; exact HP42.1); clear HP42; have n0_ := Aside0.mk (hp_); have n1_ := Aside0.mk ((by rw [hw]; exact below_set (HB.out) GBcv41.out : Below w.heap.size w w43)); clear HO196; clear HB; clear BCcv41; have HO196 := n0_; have HB := n1_; clear n0_ n1_; clear hg hw hp_; have hcv44 := Kd.C_string (P := Try.prog) (A := some ⟨gocv41, 0, none⟩) (c := cocv41) Try.underlying22 Try.underlying5 Try.underlying9 (Kd.V_reads' HO196.out).2.2; rw [← (Kd.V_reads' HO196.out).1] at hcv44) | ((with_reducible refine gate_callee (f := 11) rfl ?_); refine goesL_ (some 110) rfl rfl Try.func11 (by kernel_rfl) rfl #[.string (strOfNums y199)] rfl (by (try simp only [List.map_toArray, List.map_cons, List.map_nil]); first | done | rfl | (simp only [List.length_drop, List.length_take]; rfl)) ?_; (with_reducible refine (impl_CheckCrc.calls kj18 (strOfNums y199) t200 false _ A30.out).mono ?_); rintro e w45 ⟨rfl, hb⟩; refine ⟨_, rfl, ?_⟩; have n0_ := Aside0.mk (Kd.V_below (by (with_reducible repeat (first | apply Kd.V_alloc | apply Kd.V_drewN | apply Kd.V_drew)); exact HO196.out) hb); have n1_ := Aside0.mk (below_step (by repeat (first | (with_reducible first | exact HB.out | apply below_alloc | apply pw_below_drewN | apply below_drew1) | exact HB.out | (with_reducible exact Below.refl _ _))) hb); clear HO196; clear HB; have HO196 := n0_; have HB := n1_; clear n0_ n1_; (try clear hb); (try clear hb2); (try clear hk); (try clear hi)))
                            go_loopg [21, 22] kj18 (fun kq v21 v22 w' => ∃ (x21_3 : Int) (x22_3 : Int), v21 = .int .i64 x21_3 ∧ v22 = .int .i64 x22_3 ∧ Aside0 (laws_FnCrc.l0 kq l1 t183 t188 x21_3 x22_3 = some r) ∧ Aside0 (kq ≤ kj18) ∧ Aside0 (Below w.heap.size w w'))
                            case atStart => exact ⟨(65535), (0), (by first | rfl | (simp; done) | (simp [*]; done)), (by first | rfl | (simp; done) | (simp [*]; done)), H', ⟨Nat.le_refl _⟩, ⟨by repeat (first | (with_reducible first | exact HB.out | apply below_alloc | apply pw_below_drewN | apply below_drew1) | exact HB.out | (with_reducible exact Below.refl _ _))⟩⟩
                            case round =>
                              clear H'
                              try clear c1
                              try clear p1
                              try clear q1
                              try clear hx1
                              try clear c2
                              try clear p2
                              try clear q2
                              try clear hx2
                              try clear hf2
                              try clear c3
                              try clear c3b0
                              try clear hcv3
                              try clear hcv4
                              try clear c6
                              try clear p6
                              try clear c7
                              try clear c8
                              try clear c9
                              try clear c10
                              try clear c11
                              try clear c12
                              try clear c13
                              try clear c13b0
                              try clear c13b1
                              try clear c13b2
                              try clear c14
                              try clear c14b0
                              try clear c14b1
                              try clear c15
                              try clear c15b0
                              try clear c15b1
                              try clear c15b2
                              try clear c16
                              try clear c17
                              try clear p19
                              try clear q19
                              try clear hx19
                              try clear c21
                              try clear c22
                              try clear c23
                              try clear c23b0
                              try clear c23b1
                              try clear c23b2
                              try clear c25
                              try clear c25b0
                              try clear c25b1
                              try clear c25b2
                              try clear c27
                              try clear c27b0
                              try clear c28
                              try clear c28b0
                              try clear p29
                              try clear q29
                              try clear hx29
                              try clear hf29
                              try clear c31
                              try clear hcv37
                              try clear hcv44
                              try clear hx198_0
                              try clear hx29_0
                              try clear p198
                              try clear p2
                              try clear p29
                              try clear p6
                              try clear q198
                              try clear q29
                              obtain ⟨x21_3, x22_3, rfl, rfl, HA, HK3, HB⟩ := hrel
                              cases gk with
                              | zero => exact absurd HA.out (by simp [laws_FnCrc.l0])
                              | succ k3 =>
                                have H := HA.out
                                clear HA
                                simp only [laws_FnCrc.l0] at H
                                by_cases c46 : x22_3 < (t183.size : Int)
                                · rw [if_pos c46] at H
                                  have c46b0 : decide (x22_3 < (t183.size : Int)) = true := decide_eq_true c46
                                  clear c46
                                  by_cases c47 : 0 ≤ x22_3
                                  · rw [if_pos c47] at H
                                    have c47b0 : decide (0 ≤ x22_3) = true := decide_eq_true c47
                                    clear c47
                                    replace H := Option.bind_eq_some_iff.mp H
                                    obtain ⟨⟨t202, t203⟩, A490, H⟩ := H
                                    replace H : (if t203 = true then (laws_FnCrc.l0 k3 l1 t183 t188 t202 (wrap64 (x22_3 + 1))) else (some false)) = some r := H
                                    have A49 := Aside0.mk A490
                                    clear A490
                                    by_cases c50 : t203 = true
                                    · subst c50
                                      have H1 : (laws_FnCrc.l0 k3 l1 t183 t188 t202 (wrap64 (x22_3 + 1))) = some r := by rw [if_pos rfl] at H; exact H
                                      clear H
                                      have H := H1
                                      clear H1
                                      have H' := Aside0.mk H
                                      clear H
                                      have p48 : 0 ≤ (x22_3 : Int) := of_decide_eq_true (by first | (with_reducible assumption) | assumption)
                                      have q48 : x22_3 < (t183.size : Int) := of_decide_eq_true (by first | (with_reducible assumption) | assumption)
                                      have hx48 := bt_at t183 x22_3
                                      replace p48 := eq_true p48
                                      replace q48 := eq_true q48
                                      go_wp2_with (first | ((with_reducible refine gate_callee (f := 13) rfl ?_); refine goesL_ (some 125) rfl rfl Try.func13 (by kernel_rfl) rfl #[.int .i64 x21_3, .int .u8 (bt t183 x22_3)] rfl (by (try simp only [List.map_toArray, List.map_cons, List.map_nil]); first | done | rfl | (simp only [List.length_drop, List.length_take]; rfl)) ?_; (with_reducible refine (impl_CrcAdd.calls k3 x21_3 (bt t183 x22_3) t202 true _ A49.out).mono ?_); rintro e w' ⟨rfl, ⟨nd, rfl⟩⟩; refine ⟨_, rfl, ?_⟩))
                                      go_roundg k3
                                      case measure => have := HJ8.out; have := HJ18.out; have := HK3.out; omega
                                      case rel => exact ⟨(t202), (wrap64 (x22_3 + 1)), (by first | rfl | (simp; done) | (simp [*]; done)), (by first | rfl | (simp; done) | (simp [*]; done)), H', ⟨by have := HJ8.out; have := HJ18.out; have := HK3.out; omega⟩, ⟨by repeat (first | (with_reducible first | exact HB.out | apply below_alloc | apply pw_below_drewN | apply below_drew1) | exact HB.out | (with_reducible exact Below.refl _ _))⟩⟩
                                    · replace c50 := Bool.eq_false_iff.mpr c50
                                      subst c50
                                      have H1 : (some false) = some r := by rw [if_neg (show ¬ (false = true) by decide)] at H; exact H
                                      clear H
                                      have H := H1
                                      clear H1
                                      obtain rfl := Option.some.inj H
                                      have p48 : 0 ≤ (x22_3 : Int) := of_decide_eq_true (by first | (with_reducible assumption) | assumption)
                                      have q48 : x22_3 < (t183.size : Int) := of_decide_eq_true (by first | (with_reducible assumption) | assumption)
                                      have hx48 := bt_at t183 x22_3
                                      replace p48 := eq_true p48
                                      replace q48 := eq_true q48
                                      go_wp2_with (first | ((with_reducible refine gate_callee (f := 13) rfl ?_); refine goesL_ (some 125) rfl rfl Try.func13 (by kernel_rfl) rfl #[.int .i64 x21_3, .int .u8 (bt t183 x22_3)] rfl (by (try simp only [List.map_toArray, List.map_cons, List.map_nil]); first | done | rfl | (simp only [List.length_drop, List.length_take]; rfl)) ?_; (with_reducible refine (impl_CrcAdd.calls k3 x21_3 (bt t183 x22_3) t202 false _ A49.out).mono ?_); rintro e w' ⟨rfl, ⟨nd, rfl⟩⟩; refine ⟨_, rfl, ?_⟩))
                                      go_ret
                                      exact ⟨by first | rfl | (simp [errW_none, errW_some] <;> rfl) | (simp only [← hji26]; first | rfl | (simp [errW_none, errW_some] <;> rfl)) | (simp [*, errW_none, errW_some] <;> rfl), by repeat (first | (with_reducible first | exact HB.out | apply below_alloc | apply pw_below_drewN | apply below_drew1) | exact HB.out | (with_reducible exact Below.refl _ _))⟩
                                  · rw [if_neg c47] at H
                                    exact absurd H (by simp)
                                · rw [if_neg c46] at H
                                  have c46b0 : decide (x22_3 < (t183.size : Int)) = false := decide_eq_false c46
                                  clear c46
                                  by_cases c51 : x21_3 = t188
                                  · rw [if_pos c51] at H
                                    have c51b0 : (x21_3 == t188) = true := beq_iff_eq.mpr c51
                                    have c51b1 : (x21_3 != t188) = false := bne_eq_false_iff_eq.mpr c51
                                    clear c51
                                    replace H := Option.bind_eq_some_iff.mp H
                                    obtain ⟨t204, A520, H⟩ := H
                                    replace H : ((impl_CheckCrc.f k3 t204).bind fun bt205 => ((spec_CheckCrc.f k3 t204).bind fun bt207 => (if (bt205.2 == bt207.2) = true then (some (bt205.1.toList == bt207.1.toList)) else (some false)))) = some r := H
                                    have A52 := Aside0.mk A520
                                    clear A520
                                    replace H := Option.bind_eq_some_iff.mp H
                                    obtain ⟨⟨t205, t206⟩, A530, H⟩ := H
                                    replace H : ((spec_CheckCrc.f k3 t204).bind fun bt207 => (if (t206 == bt207.2) = true then (some (t205.toList == bt207.1.toList)) else (some false))) = some r := H
                                    have A53 := Aside0.mk A530
                                    clear A530
                                    replace H := Option.bind_eq_some_iff.mp H
                                    obtain ⟨⟨t207, t208⟩, A540, H⟩ := H
                                    replace H : (if (t206 == t208) = true then (some (t205.toList == t207.toList)) else (some false)) = some r := H
                                    have A54 := Aside0.mk A540
                                    clear A540
                                    by_cases c55 : (t206 == t208) = true
                                    · rw [if_pos c55] at H
                                      have c55b0 : (t206 == t208) = true := c55
                                      (try (have c55b1 : decide (t206 = t208) = true := by simpa using c55))
                                      (try (have c55b2 : (t206 == t208) = true := by simpa using c55))
                                      clear c55
                                      obtain rfl := Option.some.inj H
                                      go_wp2_with (first | ((with_reducible refine gate_callee (f := 14) rfl ?_); refine goesL_ (some 135) rfl rfl Try.func14 (by kernel_rfl) rfl #[.slice A1 l1.length c1] rfl (by (try simp only [List.map_toArray, List.map_cons, List.map_nil]); first | done | rfl | (simp only [List.length_drop, List.length_take]; rfl)) ?_; (with_reducible refine (spec_DrawCheckCrc.calls k3 _ _ l1 t204 _ ?side1 ?side2 A52.out).mono ?_); (case side1 => repeat (first | exact (Kd.C_below HR1.out HB.out) | (with_reducible refine Kd.C_alloc ?_ _) | (with_reducible refine Kd.C_drewN ?_ _) | (with_reducible refine Kd.C_drew ?_))); (case side2 => exact HC1.out); rintro e w56 ⟨rfl, hb⟩; refine ⟨_, rfl, ?_⟩; have n0_ := Aside0.mk (below_step (by repeat (first | (with_reducible first | exact HB.out | apply below_alloc | apply pw_below_drewN | apply below_drew1) | exact HB.out | (with_reducible exact Below.refl _ _))) hb); clear HB; have HB := n0_; clear n0_; (try clear hb); (try clear hb2); (try clear hk); (try clear hi)) | ((with_reducible refine gate_callee (f := 11) rfl ?_); refine goesL_ (some 138) rfl rfl Try.func11 (by kernel_rfl) rfl #[.string t204] rfl (by (try simp only [List.map_toArray, List.map_cons, List.map_nil]); first | done | rfl | (simp only [List.length_drop, List.length_take]; rfl)) ?_; (with_reducible refine (impl_CheckCrc.calls k3 t204 t205 t206 _ A53.out).mono ?_); rintro e w57 ⟨rfl, hb⟩; refine ⟨_, rfl, ?_⟩; have n0_ := Aside0.mk (below_step (by repeat (first | (with_reducible first | exact HB.out | apply below_alloc | apply pw_below_drewN | apply below_drew1) | exact HB.out | (with_reducible exact Below.refl _ _))) hb); clear HB; have HB := n0_; clear n0_; (try clear hb); (try clear hb2); (try clear hk); (try clear hi)) | ((with_reducible refine gate_callee (f := 15) rfl ?_); refine goesL_ (some 143) rfl rfl Try.func15 (by kernel_rfl) rfl #[.string t204] rfl (by (try simp only [List.map_toArray, List.map_cons, List.map_nil]); first | done | rfl | (simp only [List.length_drop, List.length_take]; rfl)) ?_; (with_reducible refine (spec_CheckCrc.calls k3 t204 t207 t208 _ A54.out).mono ?_); rintro e w58 ⟨rfl, hb⟩; refine ⟨_, rfl, ?_⟩; have n0_ := Aside0.mk (below_step (by repeat (first | (with_reducible first | exact HB.out | apply below_alloc | apply pw_below_drewN | apply below_drew1) | exact HB.out | (with_reducible exact Below.refl _ _))) hb); clear HB; have HB := n0_; clear n0_; (try clear hb); (try clear hb2); (try clear hk); (try clear hi)))
                                      go_ret
                                      exact ⟨by first | rfl | (simp [errW_none, errW_some] <;> rfl) | (simp only [← hji26]; first | rfl | (simp [errW_none, errW_some] <;> rfl)) | (simp [*, errW_none, errW_some] <;> rfl), by repeat (first | (with_reducible first | exact HB.out | apply below_alloc | apply pw_below_drewN | apply below_drew1) | exact HB.out | (with_reducible exact Below.refl _ _))⟩
                                    · rw [if_neg c55] at H
                                      have c55b0 : (t206 == t208) = false := by simpa using c55
                                      (try (have c55b1 : decide (t206 = t208) = false := by simpa using c55))
                                      (try (have c55b2 : (t206 == t208) = false := by simpa using c55))
                                      (try (have c55b3 : ¬ (t206 = t208) := by simpa using c55))
                                      clear c55
                                      obtain rfl := Option.some.inj H
                                      go_wp2_with (first | ((with_reducible refine gate_callee (f := 14) rfl ?_); refine goesL_ (some 135) rfl rfl Try.func14 (by kernel_rfl) rfl #[.slice A1 l1.length c1] rfl (by (try simp only [List.map_toArray, List.map_cons, List.map_nil]); first | done | rfl | (simp only [List.length_drop, List.length_take]; rfl)) ?_; (with_reducible refine (spec_DrawCheckCrc.calls k3 _ _ l1 t204 _ ?side1 ?side2 A52.out).mono ?_); (case side1 => repeat (first | exact (Kd.C_below HR1.out HB.out) | (with_reducible refine Kd.C_alloc ?_ _) | (with_reducible refine Kd.C_drewN ?_ _) | (with_reducible refine Kd.C_drew ?_))); (case side2 => exact HC1.out); rintro e w59 ⟨rfl, hb⟩; refine ⟨_, rfl, ?_⟩; have n0_ := Aside0.mk (below_step (by repeat (first | (with_reducible first | exact HB.out | apply below_alloc | apply pw_below_drewN | apply below_drew1) | exact HB.out | (with_reducible exact Below.refl _ _))) hb); clear HB; have HB := n0_; clear n0_; (try clear hb); (try clear hb2); (try clear hk); (try clear hi)) | ((with_reducible refine gate_callee (f := 11) rfl ?_); refine goesL_ (some 138) rfl rfl Try.func11 (by kernel_rfl) rfl #[.string t204] rfl (by (try simp only [List.map_toArray, List.map_cons, List.map_nil]); first | done | rfl | (simp only [List.length_drop, List.length_take]; rfl)) ?_; (with_reducible refine (impl_CheckCrc.calls k3 t204 t205 t206 _ A53.out).mono ?_); rintro e w60 ⟨rfl, hb⟩; refine ⟨_, rfl, ?_⟩; have n0_ := Aside0.mk (below_step (by repeat (first | (with_reducible first | exact HB.out | apply below_alloc | apply pw_below_drewN | apply below_drew1) | exact HB.out | (with_reducible exact Below.refl _ _))) hb); clear HB; have HB := n0_; clear n0_; (try clear hb); (try clear hb2); (try clear hk); (try clear hi)) | ((with_reducible refine gate_callee (f := 15) rfl ?_); refine goesL_ (some 143) rfl rfl Try.func15 (by kernel_rfl) rfl #[.string t204] rfl (by (try simp only [List.map_toArray, List.map_cons, List.map_nil]); first | done | rfl | (simp only [List.length_drop, List.length_take]; rfl)) ?_; (with_reducible refine (spec_CheckCrc.calls k3 t204 t207 t208 _ A54.out).mono ?_); rintro e w61 ⟨rfl, hb⟩; refine ⟨_, rfl, ?_⟩; have n0_ := Aside0.mk (below_step (by repeat (first | (with_reducible first | exact HB.out | apply below_alloc | apply pw_below_drewN | apply below_drew1) | exact HB.out | (with_reducible exact Below.refl _ _))) hb); clear HB; have HB := n0_; clear n0_; (try clear hb); (try clear hb2); (try clear hk); (try clear hi)))
                                      go_ret
                                      exact ⟨by first | rfl | (simp [errW_none, errW_some] <;> rfl) | (simp only [← hji26]; first | rfl | (simp [errW_none, errW_some] <;> rfl)) | (simp [*, errW_none, errW_some] <;> rfl), by repeat (first | (with_reducible first | exact HB.out | apply below_alloc | apply pw_below_drewN | apply below_drew1) | exact HB.out | (with_reducible exact Below.refl _ _))⟩
                                  · rw [if_neg c51] at H
                                    have c51b0 : (x21_3 == t188) = false := beq_eq_false_iff_ne.mpr c51
                                    have c51b1 : (x21_3 != t188) = true := bne_iff_ne.mpr c51
                                    obtain rfl := Option.some.inj H
                                    go_wp2
                                    go_ret
                                    exact ⟨by first | rfl | (simp [errW_none, errW_some] <;> rfl) | (simp only [← hji26]; first | rfl | (simp [errW_none, errW_some] <;> rfl)) | (simp [*, errW_none, errW_some] <;> rfl), by repeat (first | (with_reducible first | exact HB.out | apply below_alloc | apply pw_below_drewN | apply below_drew1) | exact HB.out | (with_reducible exact Below.refl _ _))⟩
                        · rw [if_neg c28] at H
                          exact absurd H (by simp)
                      · rw [if_neg c27] at H
                        exact absurd H (by simp)
                  · rw [if_neg c23] at H
                    exact absurd H (by simp)
          · replace c17 := Bool.eq_false_iff.mpr c17
            subst c17
            have H1 : ((spec_DrawCheckCrc.f kj8 l1).bind fun t209 => ((impl_CheckCrc.f kj8 t209).bind fun bt210 => ((spec_CheckCrc.f kj8 t209).bind fun bt212 => (if (bt210.2 == bt212.2) = true then (some (bt210.1.toList == bt212.1.toList)) else (some false))))) = some r := by rw [if_neg (show ¬ (false = true) by decide)] at H; exact H
            clear H
            have H := H1
            clear H1
            replace H := Option.bind_eq_some_iff.mp H
            obtain ⟨t209, A620, H⟩ := H
            replace H : ((impl_CheckCrc.f kj8 t209).bind fun bt210 => ((spec_CheckCrc.f kj8 t209).bind fun bt212 => (if (bt210.2 == bt212.2) = true then (some (bt210.1.toList == bt212.1.toList)) else (some false)))) = some r := H
            have A62 := Aside0.mk A620
            clear A620
            replace H := Option.bind_eq_some_iff.mp H
            obtain ⟨⟨t210, t211⟩, A630, H⟩ := H
            replace H : ((spec_CheckCrc.f kj8 t209).bind fun bt212 => (if (t211 == bt212.2) = true then (some (t210.toList == bt212.1.toList)) else (some false))) = some r := H
            have A63 := Aside0.mk A630
            clear A630
            replace H := Option.bind_eq_some_iff.mp H
            obtain ⟨⟨t212, t213⟩, A640, H⟩ := H
            replace H : (if (t211 == t213) = true then (some (t210.toList == t212.toList)) else (some false)) = some r := H
            have A64 := Aside0.mk A640
            clear A640
            by_cases c65 : (t211 == t213) = true
            · rw [if_pos c65] at H
              have c65b0 : (t211 == t213) = true := c65
              (try (have c65b1 : decide (t211 = t213) = true := by simpa using c65))
              (try (have c65b2 : (t211 == t213) = true := by simpa using c65))
              clear c65
              obtain rfl := Option.some.inj H
              go_wp2_with (first | ((with_reducible refine gate_callee (f := 14) rfl ?_); refine goesL_ (some 135) rfl rfl Try.func14 (by kernel_rfl) rfl #[.slice A1 l1.length c1] rfl (by (try simp only [List.map_toArray, List.map_cons, List.map_nil]); first | done | rfl | (simp only [List.length_drop, List.length_take]; rfl)) ?_; (with_reducible refine (spec_DrawCheckCrc.calls kj8 _ _ l1 t209 _ ?side1 ?side2 A62.out).mono ?_); (case side1 => repeat (first | exact (Kd.C_below HR1.out HB.out) | (with_reducible refine Kd.C_alloc ?_ _) | (with_reducible refine Kd.C_drewN ?_ _) | (with_reducible refine Kd.C_drew ?_))); (case side2 => exact HC1.out); rintro e w66 ⟨rfl, hb⟩; refine ⟨_, rfl, ?_⟩; have n0_ := Aside0.mk (below_step (by repeat (first | (with_reducible first | exact HB.out | apply below_alloc | apply pw_below_drewN | apply below_drew1) | exact HB.out | (with_reducible exact Below.refl _ _))) hb); clear HB; have HB := n0_; clear n0_; (try clear hb); (try clear hb2); (try clear hk); (try clear hi)) | ((with_reducible refine gate_callee (f := 11) rfl ?_); refine goesL_ (some 138) rfl rfl Try.func11 (by kernel_rfl) rfl #[.string t209] rfl (by (try simp only [List.map_toArray, List.map_cons, List.map_nil]); first | done | rfl | (simp only [List.length_drop, List.length_take]; rfl)) ?_; (with_reducible refine (impl_CheckCrc.calls kj8 t209 t210 t211 _ A63.out).mono ?_); rintro e w67 ⟨rfl, hb⟩; refine ⟨_, rfl, ?_⟩; have n0_ := Aside0.mk (below_step (by repeat (first | (with_reducible first | exact HB.out | apply below_alloc | apply pw_below_drewN | apply below_drew1) | exact HB.out | (with_reducible exact Below.refl _ _))) hb); clear HB; have HB := n0_; clear n0_; (try clear hb); (try clear hb2); (try clear hk); (try clear hi)) | ((with_reducible refine gate_callee (f := 15) rfl ?_); refine goesL_ (some 143) rfl rfl Try.func15 (by kernel_rfl) rfl #[.string t209] rfl (by (try simp only [List.map_toArray, List.map_cons, List.map_nil]); first | done | rfl | (simp only [List.length_drop, List.length_take]; rfl)) ?_; (with_reducible refine (spec_CheckCrc.calls kj8 t209 t212 t213 _ A64.out).mono ?_); rintro e w68 ⟨rfl, hb⟩; refine ⟨_, rfl, ?_⟩; have n0_ := Aside0.mk (below_step (by repeat (first | (with_reducible first | exact HB.out | apply below_alloc | apply pw_below_drewN | apply below_drew1) | exact HB.out | (with_reducible exact Below.refl _ _))) hb); clear HB; have HB := n0_; clear n0_; (try clear hb); (try clear hb2); (try clear hk); (try clear hi)))
              go_ret
              exact ⟨by first | rfl | (simp [errW_none, errW_some] <;> rfl) | (simp [*, errW_none, errW_some] <;> rfl), by repeat (first | (with_reducible first | exact HB.out | apply below_alloc | apply pw_below_drewN | apply below_drew1) | exact HB.out | (with_reducible exact Below.refl _ _))⟩
            · rw [if_neg c65] at H
              have c65b0 : (t211 == t213) = false := by simpa using c65
              (try (have c65b1 : decide (t211 = t213) = false := by simpa using c65))
              (try (have c65b2 : (t211 == t213) = false := by simpa using c65))
              (try (have c65b3 : ¬ (t211 = t213) := by simpa using c65))
              clear c65
              obtain rfl := Option.some.inj H
              go_wp2_with (first | ((with_reducible refine gate_callee (f := 14) rfl ?_); refine goesL_ (some 135) rfl rfl Try.func14 (by kernel_rfl) rfl #[.slice A1 l1.length c1] rfl (by (try simp only [List.map_toArray, List.map_cons, List.map_nil]); first | done | rfl | (simp only [List.length_drop, List.length_take]; rfl)) ?_; (with_reducible refine (spec_DrawCheckCrc.calls kj8 _ _ l1 t209 _ ?side1 ?side2 A62.out).mono ?_); (case side1 => repeat (first | exact (Kd.C_below HR1.out HB.out) | (with_reducible refine Kd.C_alloc ?_ _) | (with_reducible refine Kd.C_drewN ?_ _) | (with_reducible refine Kd.C_drew ?_))); (case side2 => exact HC1.out); rintro e w69 ⟨rfl, hb⟩; refine ⟨_, rfl, ?_⟩; have n0_ := Aside0.mk (below_step (by repeat (first | (with_reducible first | exact HB.out | apply below_alloc | apply pw_below_drewN | apply below_drew1) | exact HB.out | (with_reducible exact Below.refl _ _))) hb); clear HB; have HB := n0_; clear n0_; (try clear hb); (try clear hb2); (try clear hk); (try clear hi)) | ((with_reducible refine gate_callee (f := 11) rfl ?_); refine goesL_ (some 138) rfl rfl Try.func11 (by kernel_rfl) rfl #[.string t209] rfl (by (try simp only [List.map_toArray, List.map_cons, List.map_nil]); first | done | rfl | (simp only [List.length_drop, List.length_take]; rfl)) ?_; (with_reducible refine (impl_CheckCrc.calls kj8 t209 t210 t211 _ A63.out).mono ?_); rintro e w70 ⟨rfl, hb⟩; refine ⟨_, rfl, ?_⟩; have n0_ := Aside0.mk (below_step (by repeat (first | (with_reducible first | exact HB.out | apply below_alloc | apply pw_below_drewN | apply below_drew1) | exact HB.out | (with_reducible exact Below.refl _ _))) hb); clear HB; have HB := n0_; clear n0_; (try clear hb); (try clear hb2); (try clear hk); (try clear hi)) | ((with_reducible refine gate_callee (f := 15) rfl ?_); refine goesL_ (some 143) rfl rfl Try.func15 (by kernel_rfl) rfl #[.string t209] rfl (by (try simp only [List.map_toArray, List.map_cons, List.map_nil]); first | done | rfl | (simp only [List.length_drop, List.length_take]; rfl)) ?_; (with_reducible refine (spec_CheckCrc.calls kj8 t209 t212 t213 _ A64.out).mono ?_); rintro e w71 ⟨rfl, hb⟩; refine ⟨_, rfl, ?_⟩; have n0_ := Aside0.mk (below_step (by repeat (first | (with_reducible first | exact HB.out | apply below_alloc | apply pw_below_drewN | apply below_drew1) | exact HB.out | (with_reducible exact Below.refl _ _))) hb); clear HB; have HB := n0_; clear n0_; (try clear hb); (try clear hb2); (try clear hk); (try clear hi)))
              go_ret
              exact ⟨by first | rfl | (simp [errW_none, errW_some] <;> rfl) | (simp [*, errW_none, errW_some] <;> rfl), by repeat (first | (with_reducible first | exact HB.out | apply below_alloc | apply pw_below_drewN | apply below_drew1) | exact HB.out | (with_reducible exact Below.refl _ _))⟩

/-- THE ONE PURE STATEMENT of laws_FnCrc: yours. -/
def laws_FnCrc.Pure : Prop := ∀ (l0 : List Int) (l1 : List Int), l0.length ≤ maxLen → l0.length * 1 ≤ 140737488351232 → (∀ x ∈ l0, (Lit.int .u8 x).wf = true) → l1.length ≤ maxLen → l1.length * 1 ≤ 140737488351232 → (∀ x ∈ l1, (Lit.int .u8 x).wf = true) → ∃ k, laws_FnCrc.f k l0 l1 = some true
theorem laws_FnCrc.walk (P : laws_FnCrc.Pure) (a0 : Option Addr) (len0 cap0 : Nat) (z0 : List Int) (a1 : Option Addr) (len1 cap1 : Nat) (z1 : List Int) (w : World) (w0 : (a0 = none ∧ len0 = 0 ∧ cap0 = 0 ∧ z0 = []) ∨ ∃ x, a0 = some x ∧ len0 ≤ cap0 ∧ cap0 ≤ maxLen ∧ z0.length = cap0 ∧ (∀ i, i < z0.length → w.cell? (x.add i) = some (.int .u8 (z0.getD i 0))) ∧ ∀ n ∈ z0, (Lit.int .u8 n).wf = true) (y0 : len0 * 1 ≤ 140737488351232) (w1 : (a1 = none ∧ len1 = 0 ∧ cap1 = 0 ∧ z1 = []) ∨ ∃ x, a1 = some x ∧ len1 ≤ cap1 ∧ cap1 ≤ maxLen ∧ z1.length = cap1 ∧ (∀ i, i < z1.length → w.cell? (x.add i) = some (.int .u8 (z1.getD i 0))) ∧ ∀ n ∈ z1, (Lit.int .u8 n).wf = true) (y1 : len1 * 1 ≤ 140737488351232) :
    Calls Try.prog 3 #[.slice a0 len0 cap0, .slice a1 len1 cap1] w fun e w' => e = .returned (.bool true) ∧ Below w.heap.size w w' := by
  obtain ⟨l0, rfl, hr0, hm0, hw0, hc0⟩ := ReadsInt.ofRowC w0
  obtain ⟨l1, rfl, hr1, hm1, hw1, hc1⟩ := ReadsInt.ofRowC w1
  obtain ⟨k, h⟩ := P l0 l1 hm0 y0 hw0 hm1 y1 hw1
  refine (laws_FnCrc.calls k _ _ l0 _ _ l1 true w (Kd.C_of_reads (d := (0 : Int)) (h1 := fun _ => rfl) hr0) hc0 (Kd.C_of_reads (d := (0 : Int)) (h1 := fun _ => rfl) hr1) hc1 h).mono ?_
  rintro e w' ⟨rfl, hd⟩
  exact ⟨rfl, hd⟩

end Go.Proofs.Ytaffjcaohbkmoaa.QFnCrc
