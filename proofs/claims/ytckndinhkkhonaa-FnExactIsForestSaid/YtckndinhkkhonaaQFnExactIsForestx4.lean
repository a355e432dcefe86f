/- Each Go function that a law reaches as a plain Lean function, and the proof that the Go code comes to just its answers. Written by a program of this work. -/
import Derived.Test.YtckndinhkkhonaaQFnExactIsForestx0
namespace Go.Proofs.Ytckndinhkkhonaa.QFnExactIsForest
open Go.RowKit Go.Proofs.YtckndinhkkhonaaW.PrintWords Go.Proofs.YtckndinhkkhonaaW.PrintLast Go.Proofs.YtckndinhkkhonaaW.PrintMore
attribute [local go_sem] max2_int min2_int max_two min_two max_three min_three max_four min_four   -- for this text's walks alone
set_option linter.unusedVariables false
set_option linter.unusedSimpArgs false

/-! ### impl_GoodEdges: function 45 -/
theorem ge_within (a b c : Int) (w : World) : Calls Try.prog 56 #[.int .i64 a, .int .i64 b, .int .i64 c] w fun e w' => e = .returned (.bool (decide (b ≤ a) && decide (a ≤ c))) ∧ w' = w := by
  by_cases h0 : b ≤ a
  · have c0 : decide (b ≤ a) = true := decide_eq_true h0
    have c1 : (a ≥ b) = True := eq_true h0
    go_enter Try.func56, Try.ntmps56
    go_wp2
    go_ret
    exact ⟨by simp [h0], rfl⟩
  · have c0 : decide (b ≤ a) = false := decide_eq_false h0
    go_enter Try.func56, Try.ntmps56
    go_wp2
    go_ret
    exact ⟨by simp [h0], rfl⟩
def inE (a b c : Int) : Bool := decide (b ≤ a) && decide (a ≤ c)
theorem ge_node (a : Int) (w : World) : Calls Try.prog 63 #[.int .i64 a] w fun e w' => e = .returned (.bool (inE a 0 7)) ∧ w' = w := by
  go_enter Try.func63, Try.ntmps63
  go_wp2_with (go_at_call 56; refine (ge_within _ _ _ _).mono ?_; rintro e w' ⟨rfl, rfl⟩)
  go_ret
  exact ⟨rfl, rfl⟩
def unlikeE (a b : Int) : Bool := inE a 0 7 && inE b 0 7 && decide (a ≠ b)
set_option maxRecDepth 100000 in
theorem ge_unlike (a b : Int) (w : World) : Calls Try.prog 55 #[.int .i64 a, .int .i64 b] w fun e w' => e = .returned (.bool (unlikeE a b)) ∧ w' = w := by
  have n1 := ge_node a w
  have n2 := ge_node b w
  unfold unlikeE
  generalize inE a 0 7 = x at n1 ⊢
  generalize inE b 0 7 = y at n2 ⊢
  cases x <;> cases y <;> by_cases h : a = b
  all_goals
    go_enter Try.func55, Try.ntmps55
    go_wp2_with (go_at_call 63; first | (refine n1.mono ?_; rintro e w' ⟨rfl, rfl⟩) | (refine n2.mono ?_; rintro e w' ⟨rfl, rfl⟩))
    go_ret
    exact ⟨by simp [h], rfl⟩
def badE (x : S97) : Bool := !unlikeE x.f0 x.f1 || !inE x.f2 0 1000
set_option maxRecDepth 100000 in
set_option maxHeartbeats 2000000 in
theorem ge_bad (x : S97) (W : World) : Calls Try.prog 76 #[.agg #[.int .i64 x.f0, .int .i64 x.f1, .int .i64 x.f2]] W fun e w' => e = .returned (.bool (badE x)) ∧ Below W.heap.size W w' := by
  obtain ⟨a, b, f⟩ := x
  simp only [badE]
  have n1 := fun w => ge_unlike a b w
  have n2 := fun w => ge_within f 0 1000 w
  have e2 : inE f 0 1000 = (decide (0 ≤ f) && decide (f ≤ 1000)) := rfl
  rw [← e2] at n2
  clear e2
  generalize unlikeE a b = p at n1 ⊢
  generalize inE f 0 1000 = q at n2 ⊢
  cases p
  · go_enter Try.func76, Try.ntmps76
    go_wp2_with (go_at_call 55; refine (n1 _).mono ?_; rintro e w' ⟨rfl, rfl⟩)
    go_ret
    exact ⟨by simp, (Below.refl _ W).alloc (Nat.le_refl _) _⟩
  · cases q
    all_goals
      go_enter Try.func76, Try.ntmps76
      go_wp2_with (first | (go_at_call 55; refine (n1 _).mono ?_; rintro e w' ⟨rfl, rfl⟩) | (go_at_call 56; refine (n2 _).mono ?_; rintro e w' ⟨rfl, rfl⟩))
      go_ret
      exact ⟨by simp, (Below.refl _ W).alloc (Nat.le_refl _) _⟩
set_option maxRecDepth 100000 in
set_option maxHeartbeats 4000000 in
theorem ge_index (A0 : Option Addr) (c0 : Nat) (l0 : List S97) (w : World) (hr0 : Kd.C k97 w A0 l0.length l0) :
    Calls Try.prog 87 #[.slice A0 l0.length c0, .func (.func 76) #[] #[]] w fun e w' => (∃ i, e = .returned (.int .i64 i) ∧ (0 ≤ i ↔ l0.any badE = true)) ∧ Below w.heap.size w w' := by
  have HR := Aside0.mk hr0
  have hbig : l0.length ≤ 9223372036854775807 := hr0.2.1
  clear hr0
  have eg : ∀ args w, (callFunc 76 args).run Try.prog w = .ok (.enter 76 args) w := enters_of Try.func76 (by kernel_rfl) rfl
  go_enter Try.func87, Try.ntmps87
  go_wp2
  go_loopg [5, 8] l0.length (fun gg _ s8 wr => ∃ kk : Nat, kk ≤ l0.length ∧ l0.length - kk ≤ gg ∧ s8 = .int .i64 (kk : Int) ∧ Aside0 (Below w.heap.size w wr) ∧ Aside0 ((l0.take kk).any badE = false))
  case atStart => exact ⟨0, Nat.zero_le _, by omega, rfl, ⟨Below.refl _ w⟩, ⟨by simp⟩⟩
  case round =>
    obtain ⟨kk, hkk, hg, rfl, HB, HA⟩ := hrel
    by_cases hlt : kk < l0.length
    · have hltz : (kk : Int) < (l0.length : Int) := by omega
      have c0 : (0 : Int) ≤ (kk : Int) := by omega
      obtain ⟨ad, rfl, g0, g1, g2⟩ := at_T97 HR.out (kk : Int) c0 hltz
      replace g0 := (HB.out.cell (World.block_lt_of_cell? w _ g0)).trans g0
      replace g1 := (HB.out.cell (World.block_lt_of_cell? w _ g1)).trans g1
      replace g2 := (HB.out.cell (World.block_lt_of_cell? w _ g2)).trans g2
      have hy : rd_T97 l0 (kk : Int) = l0[kk] := by simp [rd_T97, List.getD_eq_getElem?_getD, List.getElem?_eq_getElem hlt]
      rw [hy] at g0 g1 g2
      simp only [Int.toNat_natCast] at g0 g1 g2
      have hcall := ge_bad l0[kk] wr
      have ht : (l0.take (kk + 1)).any badE = badE l0[kk] := by
        rw [List.take_succ_eq_append_getElem hlt, List.any_append, HA.out]; simp
      have hin : l0[kk] ∈ l0 := List.getElem_mem hlt
      have HT := Aside0.mk ht
      have HI := Aside0.mk hin
      clear ht hin hy
      generalize l0[kk] = y at g0 g1 g2 hcall HT HI
      cases hq : badE y with
      | true =>
        rw [hq] at hcall
        go_wp2_with (go_at_call 76; refine hcall.mono ?_; rintro e w' ⟨rfl, hb'⟩)
        go_ret
        refine ⟨⟨_, rfl, ?_⟩, below_step HB.out hb'⟩
        exact ⟨fun _ => List.any_eq_true.mpr ⟨y, HI.out, hq⟩, fun _ => by omega⟩
      | false =>
        rw [hq] at hcall
        go_wp2_with (go_at_call 76; refine hcall.mono ?_; rintro e w' ⟨rfl, hb'⟩)
        go_roundg (l0.length - (kk + 1))
        case measure => omega
        case rel => exact ⟨kk + 1, by omega, by omega, by go_num, ⟨below_step HB.out hb'⟩, ⟨HT.out.trans hq⟩⟩
    · have hltz : ¬ (kk : Int) < (l0.length : Int) := by omega
      have : kk = l0.length := by omega
      subst this
      go_wp2
      go_ret
      refine ⟨⟨_, rfl, ?_⟩, HB.out⟩
      have z := HA.out
      rw [List.take_length] at z
      exact ⟨fun h => absurd h (by decide), fun h => absurd (z.symm.trans (List.any_eq_true.mpr h)) (by decide)⟩
set_option maxRecDepth 100000 in
theorem ge_contains (A0 : Option Addr) (c0 : Nat) (l0 : List S97) (w : World) (hr0 : Kd.C k97 w A0 l0.length l0) :
    Calls Try.prog 75 #[.slice A0 l0.length c0, .func (.func 76) #[] #[]] w fun e w' => e = .returned (.bool (l0.any badE)) ∧ Below w.heap.size w w' := by
  have hi := ge_index A0 c0 l0 w hr0
  generalize l0.any badE = r at hi ⊢
  clear hr0
  go_enter Try.func75, Try.ntmps75
  go_wp2_with (go_at_call 87; refine hi.mono ?_; rintro e w' ⟨⟨i, rfl, hir⟩, hb'⟩)
  go_ret
  refine ⟨?_, hb'⟩
  cases r <;> simp_all
def impl_GoodEdges.f (l0 : List S97) : Option Bool := some (decide ((l0.length : Int) ≤ 24) && !l0.any badE)
set_option maxRecDepth 100000 in
theorem impl_GoodEdges.calls (A0 : Option Addr) (c0 : Nat) (l0 : List S97) (r : Bool) (w : World) (hr0 : Kd.C k97 w A0 l0.length l0) (hc0 : l0.length ≤ c0) (h : impl_GoodEdges.f l0 = some r) :
    Calls Try.prog 45 #[.slice A0 l0.length c0] w fun e w' => e = .returned (.bool r) ∧ Below w.heap.size w w' := by
  obtain rfl := Option.some.inj h
  have hi := ge_contains A0 c0 l0 w hr0
  generalize l0.any badE = q at hi ⊢
  clear hr0 hc0 h
  by_cases h0 : (l0.length : Int) ≤ 24
  · have h1 : decide ((l0.length : Int) ≤ 24) = true := decide_eq_true h0
    cases q
    all_goals
      go_enter Try.func45, Try.ntmps45
      go_wp2_with (go_at_call 75; refine hi.mono ?_; rintro e w' ⟨rfl, hb'⟩)
      go_ret
      exact ⟨by simp [h0], hb'⟩
  · have h1 : decide ((l0.length : Int) ≤ 24) = false := decide_eq_false h0
    go_enter Try.func45, Try.ntmps45
    go_wp2
    go_ret
    exact ⟨by simp [h0], Below.refl _ w⟩

/-! ### impl_rise: function 80 -/
def impl_rise.l0 : Nat → List Int → Int → List Int → Int → Int → Option (Bool)
  | 0, _, _, _, _, _ => none
  | k + 1, x0, x1, x7, x8, x9 => if x9 < x8 then (if 0 ≤ x9 then (if x9 < (x7.length : Int) then (if (rd x7 x9) < 0 then (some false) else (if (rd x7 x9) ≥ x1 then (some false) else (if x9 > 0 then (if 0 ≤ (wrap64 (x9 - 1)) then (if (wrap64 (x9 - 1)) < (x0.length : Int) then (if (rd x7 x9) ≤ (rd x0 (wrap64 (x9 - 1))) then (some false) else (impl_rise.l0 k x0 x1 x7 x8 (wrap64 (x9 + 1)))) else (none)) else (none)) else (impl_rise.l0 k x0 x1 x7 x8 (wrap64 (x9 + 1)))))) else (none)) else (none)) else (some true)
def impl_rise.f (k : Nat) (l0 : List Int) (a1 : Int) : Option (Bool) := impl_rise.l0 k l0 a1 l0 (l0.length : Int) 0
theorem impl_rise.mono_l : ∀ k, (∀ y0 y1 y2 y3 y4, LeO (impl_rise.l0 k y0 y1 y2 y3 y4) (impl_rise.l0 (k + 1) y0 y1 y2 y3 y4))
  | 0 => fun _ _ _ _ _ r h => by simp [impl_rise.l0] at h
  | k + 1 => by
    have ih0 := impl_rise.mono_l k
    · intro y0 y1 y2 y3 y4
      unfold impl_rise.l0
      repeat' first
      | (with_reducible exact ih0 _ _ _ _ _)
      | (with_reducible exact LeO.refl _)
      | (with_reducible exact LeO.none _)
      | (with_reducible refine LeO.ite ?_ ?_)
      | (with_reducible refine LeO.bind ?_ (fun _ => ?_))
      | exact ih0 _ _ _ _ _
      | exact LeO.none _
      | refine LeO.ite ?_ ?_
      | refine LeO.bind ?_ (fun _ => ?_)
theorem impl_rise.mono : ∀ a0 a1 k, LeO (impl_rise.f k a0 a1) (impl_rise.f (k + 1) a0 a1) := by
  intro a0 a1 k
  have ih0 := impl_rise.mono_l k
  unfold impl_rise.f
  repeat' first
      | (with_reducible exact ih0 _ _ _ _ _)
      | (with_reducible exact LeO.refl _)
      | (with_reducible exact LeO.none _)
      | (with_reducible refine LeO.ite ?_ ?_)
      | (with_reducible refine LeO.bind ?_ (fun _ => ?_))
      | exact ih0 _ _ _ _ _
      | exact LeO.none _
      | refine LeO.ite ?_ ?_
      | refine LeO.bind ?_ (fun _ => ?_)
set_option maxHeartbeats 8000000 in
set_option maxRecDepth 100000 in
theorem impl_rise.calls (k : Nat) (A0 : Option Addr) (c0 : Nat) (l0 : List Int) (a1 : Int) (r : Bool) (w : World) (hr0 : Kd.C (Kd.int .i64) w A0 l0.length l0) (hc0 : l0.length ≤ c0) (h : impl_rise.f k l0 a1 = some r) :
    Calls Try.prog 80 #[.slice A0 l0.length c0, .int .i64 a1] w fun e w' => e = .returned (.bool r) ∧ Drawn0 w w' := by
  have HR0 := Aside0.mk hr0
  have HC0 := Aside0.mk hc0
  clear hr0 hc0
  have H : (impl_rise.l0 k l0 a1 l0 (l0.length : Int) 0) = some r := h
  clear h
  have H' := Aside0.mk H
  clear H
  go_enter Try.func80, Try.ntmps80
  go_wp2
  go_loopg [9] k (fun kq v9 w' => ∃ (x9_1 : Int), v9 = .int .i64 x9_1 ∧ Aside0 (impl_rise.l0 kq l0 a1 l0 (l0.length : Int) x9_1 = some r) ∧ Aside0 (kq ≤ k) ∧ Drawn0 w w')
  case atStart => exact ⟨(0), (by first | rfl | (simp; done) | (simp [*]; done)), H', ⟨Nat.le_refl _⟩, by repeat (first | exact Drawn0.refl _ | apply Drawn0.step)⟩
  case round =>
    clear H'
    try clear p2
    obtain ⟨x9_1, rfl, HA, HK1, ⟨m1, rfl⟩⟩ := hrel
    cases gk with
    | zero => exact absurd HA.out (by simp [impl_rise.l0])
    | succ k1 =>
      have H := HA.out
      clear HA
      simp only [impl_rise.l0] at H
      by_cases c3 : x9_1 < (l0.length : Int)
      · rw [if_pos c3] at H
        have c3b0 : decide (x9_1 < (l0.length : Int)) = true := decide_eq_true c3
        clear c3
        by_cases c4 : 0 ≤ x9_1
        · rw [if_pos c4] at H
          have c4b0 : decide (0 ≤ x9_1) = true := decide_eq_true c4
          clear c4
          by_cases c5 : x9_1 < (l0.length : Int)
          · rw [if_pos c5] at H
            have c5b0 : decide (x9_1 < (l0.length : Int)) = true := decide_eq_true c5
            clear c5
            by_cases c6 : (rd l0 x9_1) < 0
            · rw [if_pos c6] at H
              have c6b0 : decide ((rd l0 x9_1) < 0) = true := decide_eq_true c6
              clear c6
              obtain rfl := Option.some.inj H
              have p155 : 0 ≤ (x9_1 : Int) := of_decide_eq_true (by first | (with_reducible assumption) | assumption)
              have q155 : x9_1 < (l0.length : Int) := of_decide_eq_true (by first | (with_reducible assumption) | assumption)
              obtain ⟨ad155, e155, hx155_0⟩ := Kd.at_int HR0.out x9_1 p155 q155
              cases e155
              replace p155 := eq_true p155
              replace q155 := eq_true q155
              go_wp2
              go_ret
              exact ⟨by first | rfl | (simp; done) | (simp [*]; done), by repeat (first | exact Drawn0.refl _ | apply Drawn0.step)⟩
            · rw [if_neg c6] at H
              have c6b0 : decide ((rd l0 x9_1) < 0) = false := decide_eq_false c6
              clear c6
              by_cases c7 : (rd l0 x9_1) ≥ a1
              · rw [if_pos c7] at H
                have c7b0 : decide (a1 ≤ (rd l0 x9_1)) = true := decide_eq_true c7
                clear c7
                obtain rfl := Option.some.inj H
                have p155 : 0 ≤ (x9_1 : Int) := of_decide_eq_true (by first | (with_reducible assumption) | assumption)
                have q155 : x9_1 < (l0.length : Int) := of_decide_eq_true (by first | (with_reducible assumption) | assumption)
                obtain ⟨ad155, e155, hx155_0⟩ := Kd.at_int HR0.out x9_1 p155 q155
                cases e155
                replace p155 := eq_true p155
                replace q155 := eq_true q155
                go_wp2
                go_ret
                exact ⟨by first | rfl | (simp; done) | (simp [*]; done), by repeat (first | exact Drawn0.refl _ | apply Drawn0.step)⟩
              · rw [if_neg c7] at H
                have c7b0 : decide (a1 ≤ (rd l0 x9_1)) = false := decide_eq_false c7
                clear c7
                by_cases c8 : x9_1 > 0
                · rw [if_pos c8] at H
                  have c8b0 : decide (0 < x9_1) = true := decide_eq_true c8
                  clear c8
                  obtain ⟨ji9, hji9⟩ : ∃ j_ : Int, (wrap64 (x9_1 - 1)) = j_ := ⟨_, rfl⟩
                  replace H : (if 0 ≤ (ji9) then (if (ji9) < (l0.length : Int) then (if (rd l0 x9_1) ≤ (rd l0 (ji9)) then (some false) else (impl_rise.l0 k1 l0 a1 l0 (l0.length : Int) (wrap64 (x9_1 + 1)))) else (none)) else (none)) = some r := by first | (rw [hji9] at H; exact H) | (simp only [hji9] at H ⊢; exact H)
                  have hji9w : (IntKind.i64.wrap (x9_1 - 1)) = ji9 := (i64_w _).trans hji9
                  by_cases c10 : 0 ≤ (ji9)
                  · rw [if_pos c10] at H
                    have c10b0 : decide (0 ≤ (ji9)) = true := decide_eq_true c10
                    clear c10
                    by_cases c11 : (ji9) < (l0.length : Int)
                    · rw [if_pos c11] at H
                      have c11b0 : decide ((ji9) < (l0.length : Int)) = true := decide_eq_true c11
                      clear c11
                      by_cases c12 : (rd l0 x9_1) ≤ (rd l0 (ji9))
                      · rw [if_pos c12] at H
                        have c12b0 : decide ((rd l0 x9_1) ≤ (rd l0 (ji9))) = true := decide_eq_true c12
                        clear c12
                        obtain rfl := Option.some.inj H
                        have p155 : 0 ≤ (x9_1 : Int) := of_decide_eq_true (by first | (with_reducible assumption) | assumption)
                        have q155 : x9_1 < (l0.length : Int) := of_decide_eq_true (by first | (with_reducible assumption) | assumption)
                        obtain ⟨ad155, e155, hx155_0⟩ := Kd.at_int HR0.out x9_1 p155 q155
                        cases e155
                        replace p155 := eq_true p155
                        replace q155 := eq_true q155
                        have p156 : 0 ≤ ((ji9) : Int) := of_decide_eq_true (by first | (with_reducible assumption) | assumption)
                        have q156 : (ji9) < (l0.length : Int) := of_decide_eq_true (by first | (with_reducible assumption) | assumption)
                        obtain ⟨ad156, e156, hx156_0⟩ := Kd.at_int HR0.out (ji9) p156 q156
                        obtain rfl : ad155 = ad156 := (by injection e156)
                        replace p156 := eq_true p156
                        replace q156 := eq_true q156
                        go_wp2
                        go_ret
                        exact ⟨by first | rfl | (simp; done) | (simp only [← hji9] <;> (first | rfl | simp)) | (simp [*]; done), by repeat (first | exact Drawn0.refl _ | apply Drawn0.step)⟩
                      · rw [if_neg c12] at H
                        have c12b0 : decide ((rd l0 x9_1) ≤ (rd l0 (ji9))) = false := decide_eq_false c12
                        clear c12
                        have H' := Aside0.mk H
                        clear H
                        have p155 : 0 ≤ (x9_1 : Int) := of_decide_eq_true (by first | (with_reducible assumption) | assumption)
                        have q155 : x9_1 < (l0.length : Int) := of_decide_eq_true (by first | (with_reducible assumption) | assumption)
                        obtain ⟨ad155, e155, hx155_0⟩ := Kd.at_int HR0.out x9_1 p155 q155
                        cases e155
                        replace p155 := eq_true p155
                        replace q155 := eq_true q155
                        have p156 : 0 ≤ ((ji9) : Int) := of_decide_eq_true (by first | (with_reducible assumption) | assumption)
                        have q156 : (ji9) < (l0.length : Int) := of_decide_eq_true (by first | (with_reducible assumption) | assumption)
                        obtain ⟨ad156, e156, hx156_0⟩ := Kd.at_int HR0.out (ji9) p156 q156
                        obtain rfl : ad155 = ad156 := (by injection e156)
                        replace p156 := eq_true p156
                        replace q156 := eq_true q156
                        go_wp2
                        go_roundg k1
                        case measure => have := HK1.out; omega
                        case rel => exact ⟨(wrap64 (x9_1 + 1)), (by first | rfl | (simp; done) | (simp [*]; done)), H', ⟨by have := HK1.out; omega⟩, by repeat (first | exact Drawn0.refl _ | apply Drawn0.step)⟩
                    · rw [if_neg c11] at H
                      exact absurd H (by simp)
                  · rw [if_neg c10] at H
                    exact absurd H (by simp)
                · rw [if_neg c8] at H
                  have c8b0 : decide (0 < x9_1) = false := decide_eq_false c8
                  clear c8
                  have H' := Aside0.mk H
                  clear H
                  have p155 : 0 ≤ (x9_1 : Int) := of_decide_eq_true (by first | (with_reducible assumption) | assumption)
                  have q155 : x9_1 < (l0.length : Int) := of_decide_eq_true (by first | (with_reducible assumption) | assumption)
                  obtain ⟨ad155, e155, hx155_0⟩ := Kd.at_int HR0.out x9_1 p155 q155
                  cases e155
                  replace p155 := eq_true p155
                  replace q155 := eq_true q155
                  go_wp2
                  go_roundg k1
                  case measure => have := HK1.out; omega
                  case rel => exact ⟨(wrap64 (x9_1 + 1)), (by first | rfl | (simp; done) | (simp [*]; done)), H', ⟨by have := HK1.out; omega⟩, by repeat (first | exact Drawn0.refl _ | apply Drawn0.step)⟩
          · rw [if_neg c5] at H
            exact absurd H (by simp)
        · rw [if_neg c4] at H
          exact absurd H (by simp)
      · rw [if_neg c3] at H
        have c3b0 : decide (x9_1 < (l0.length : Int)) = false := decide_eq_false c3
        clear c3
        obtain rfl := Option.some.inj H
        go_wp2
        go_ret
        exact ⟨by first | rfl | (simp; done) | (simp [*]; done), by repeat (first | exact Drawn0.refl _ | apply Drawn0.step)⟩

-- NOT PRINTED: function 89 (impl_alone)

-- NOT PRINTED: function 90 (impl_parts_link)

/-! ### impl_isForest: function 81 -/
/-- The row of parts, in memory. -/
def Parts (w : World) (g : Nat) (ps : List Int) : Prop := w.heap[g]? = some (.cells (ps.map (Value.int .i64)).toArray 117 (0, 0)) ∧ ps.length = 8
/-- The first m numbers are laid. -/
def alRow (m : Nat) : List Int := (List.range 8).map fun i => if i < m then (i : Int) else 0
theorem alRow_len (m : Nat) : (alRow m).length = 8 := by simp [alRow]
theorem alRow_set (m : Nat) (h : m < 8) : ((alRow m).map (Value.int .i64)).toArray.setIfInBounds m (.int .i64 (m : Int)) = ((alRow (m + 1)).map (Value.int .i64)).toArray := by
  match m, h with
  | 0, _ => rfl
  | 1, _ => rfl
  | 2, _ => rfl
  | 3, _ => rfl
  | 4, _ => rfl
  | 5, _ => rfl
  | 6, _ => rfl
  | 7, _ => rfl
theorem parts_cell {w : World} {g : Nat} {ps : List Int} (h : Parts w g ps) (i : Int) (h0 : 0 ≤ i) (h1 : i < 8) : w.cell? ⟨g, i.toNat, none⟩ = some (.int .i64 (rd ps i)) := by
  obtain ⟨n, rfl⟩ := Int.eq_ofNat_of_zero_le h0
  have hn : n < ps.length := by have := h.2; omega
  simp only [Int.toNat_natCast]
  simp [World.cell?, h.1, rd, List.getD_eq_getElem?_getD, List.getElem?_eq_getElem hn]
set_option maxRecDepth 100000 in
set_option maxHeartbeats 4000000 in
theorem fo_alone (w : World) : Calls Try.prog 89 #[] w fun e w' => ∃ g, e = .returned (.pointer (some ⟨g, 0, none⟩)) ∧ w.heap.size ≤ g ∧ Parts w' g (alRow 8) ∧ Below w.heap.size w w' := by
  go_enter Try.func89, Try.ntmps89
  go_wp2
  go_loopg [5] 8 (fun gg s5 wr => ∃ m : Nat, m ≤ 8 ∧ 8 - m ≤ gg ∧ s5 = .int .i64 (m : Int) ∧ Aside0 (Parts wr w.heap.size (alRow m)) ∧ Aside0 (Below w.heap.size w wr))
  case atStart => exact ⟨0, by decide, by decide, rfl, ⟨heap_alloc_new w _, rfl⟩, ⟨(Below.refl _ w).alloc (Nat.le_refl _) _⟩⟩
  case round =>
    obtain ⟨m, hm, hg, rfl, HP, HB⟩ := hrel
    by_cases hlt : m < 8
    · have hltz : (m : Int) < 8 := by omega
      have h0 : 0 ≤ (m : Int) := by omega
      have hc := parts_cell HP.out (m : Int) h0 hltz
      have hf := blk_frozen HP.out.1 m
      simp only [Int.toNat_natCast] at hc
      go_wp2
      go_roundg (8 - (m + 1))
      case measure => omega
      case rel =>
        refine ⟨m + 1, by omega, by omega, by go_num, ⟨?_, alRow_len _⟩, ⟨below_set HB.out (Nat.le_refl _)⟩⟩
        exact blk_put HP.out.1 m _ (alRow_set m hlt)
    · obtain rfl : m = 8 := by omega
      go_wp2
      go_ret
      exact ⟨_, rfl, Nat.le_refl _, HP.out, HB.out⟩
/-- Two nodes linked: the greater part is the smaller one. -/
def fLink (ps : List Int) (x y : Int) : List Int := ps.map fun z => if z = (if x < y then y else x) then (if y < x then y else x) else z
def fLinkTo (m : Nat) (ps : List Int) (lo hi : Int) : List Int := (ps.take m).map (fun z => if z = hi then lo else z) ++ ps.drop m
theorem fLinkTo_len (m : Nat) (ps : List Int) (lo hi : Int) : (fLinkTo m ps lo hi).length = ps.length := by simp [fLinkTo]; omega
theorem fLinkTo_rd (m : Nat) (ps : List Int) (lo hi : Int) (h : m < ps.length) : rd (fLinkTo m ps lo hi) (m : Int) = rd ps (m : Int) := by
  unfold rd fLinkTo
  simp only [Int.toNat_natCast, List.getD_eq_getElem?_getD]
  rw [List.getElem?_append_right (by simp; omega)]
  simp [List.length_take, Nat.min_eq_left (Nat.le_of_lt h)]
theorem fLinkTo_step (m : Nat) (ps : List Int) (lo hi : Int) (h : m < ps.length) :
    (rd ps (m : Int) = hi → (fLinkTo m ps lo hi).set m lo = fLinkTo (m + 1) ps lo hi) ∧ (rd ps (m : Int) ≠ hi → fLinkTo m ps lo hi = fLinkTo (m + 1) ps lo hi) := by
  have hr : rd ps (m : Int) = ps[m] := by simp [rd, List.getD_eq_getElem?_getD, List.getElem?_eq_getElem h]
  have hd : ps.drop m = ps[m] :: ps.drop (m + 1) := List.drop_eq_getElem_cons h
  have ht : ps.take (m + 1) = ps.take m ++ [ps[m]] := List.take_succ_eq_append_getElem h
  unfold fLinkTo
  rw [hr, hd, ht, List.map_append]
  refine ⟨fun e => ?_, fun e => ?_⟩
  · rw [List.set_append_right _ _ (by rw [List.length_map, List.length_take]; omega)]
    simp [e, Nat.min_eq_left (Nat.le_of_lt h)]
  · simp [e]
set_option maxRecDepth 100000 in
set_option maxHeartbeats 4000000 in
theorem fo_link (g : Nat) (ps : List Int) (a b : Int) (ha0 : 0 ≤ a) (ha1 : a < 8) (hb0 : 0 ≤ b) (hb1 : b < 8) (w w0 : World) (B : Nat) (hP : Parts w g ps) (hBg : B ≤ g) (hBB : Below B w0 w) :
    Calls Try.prog 90 #[.pointer (some ⟨g, 0, none⟩), .int .i64 a, .int .i64 b] w fun e w' => e = .returned (.bool (decide (rd ps a ≠ rd ps b))) ∧ Parts w' g (fLink ps (rd ps a) (rd ps b)) ∧ Below B w0 w' := by
  have hc1 := parts_cell hP a ha0 ha1
  have hc2 := parts_cell hP b hb0 hb1
  have HP := Aside0.mk hP
  have HB := Aside0.mk hBB
  clear hP hBB
  unfold fLink
  generalize rd ps a = x at hc1 ⊢
  generalize rd ps b = y at hc2 ⊢
  obtain ⟨lo, hlo⟩ : ∃ z, (if y < x then y else x) = z := ⟨_, rfl⟩
  obtain ⟨hi, hhi⟩ : ∃ z, (if x < y then y else x) = z := ⟨_, rfl⟩
  rw [hlo, hhi]
  go_enter Try.func90, Try.ntmps90
  go_wp2
  go_quiet (fail)
  go_wp2
  go_loopg [32] 8 (fun gg s32 wr => ∃ m : Nat, m ≤ 8 ∧ 8 - m ≤ gg ∧ s32 = .int .i64 (m : Int) ∧ Aside0 (Parts wr g (fLinkTo m ps lo hi)) ∧ Aside0 (Below B w0 wr))
  case atStart => exact ⟨0, by decide, by decide, rfl, ⟨HP.out⟩, ⟨by repeat (first | (with_reducible first | exact HB.out | apply below_alloc | apply pw_below_drewN | apply below_drew1) | exact HB.out)⟩⟩
  case round =>
    clear HB
    obtain ⟨m, hm, hg, rfl, HQ, HB⟩ := hrel
    have hlen := HP.out.2
    by_cases hlt : m < 8
    · have hltz : (m : Int) < 8 := by omega
      have h0 : 0 ≤ (m : Int) := by omega
      have hc := parts_cell HQ.out (m : Int) h0 hltz
      have hf := blk_frozen HQ.out.1 m
      rw [fLinkTo_rd m ps lo hi (by omega)] at hc
      simp only [Int.toNat_natCast] at hc
      have hst := fLinkTo_step m ps lo hi (by omega)
      by_cases hz : rd ps (m : Int) = hi
      · rw [hz] at hc
        go_wp2
        go_roundg (8 - (m + 1))
        case measure => omega
        case rel =>
          refine ⟨m + 1, by omega, by omega, by go_num, ⟨?_, ?_⟩, ⟨Below.setCell HB.out hBg _⟩⟩
          · refine blk_put HQ.out.1 m _ ?_
            rw [← hst.1 hz]
            simp
          · rw [fLinkTo_len]; exact hlen
      · have hz2 : decide (rd ps (m : Int) = hi) = false := decide_eq_false hz
        go_wp2
        go_roundg (8 - (m + 1))
        case measure => omega
        case rel =>
          refine ⟨m + 1, by omega, by omega, by go_num, ⟨?_⟩, HB⟩
          rw [← hst.2 hz]; exact HQ.out
    · obtain rfl : m = 8 := by omega
      have hfin : fLinkTo 8 ps lo hi = ps.map (fun z => if z = hi then lo else z) := by
        unfold fLinkTo
        rw [List.take_of_length_le (by omega), List.drop_of_length_le (by omega), List.append_nil]
      rw [hfin] at HQ
      go_wp2
      go_ret
      refine ⟨?_, HQ.out, HB.out⟩
      have hxy : lo = hi ↔ x = y := by
        rw [← hlo, ← hhi]
        split <;> split <;> omega
      by_cases hq : x = y
      · have h2 := hxy.mpr hq
        simp [h2, hq]
      · have h2 : lo ≠ hi := fun e => hq (hxy.mp e)
        simp [h2, hq]
/-- What the program does with the numbers of edges: from parts on. -/
def foGo (l : List S97) : List Int → List Int → Option Bool
  | _, [] => some true
  | ps, k :: ks => if 0 ≤ k then if k < (l.length : Int) then if 0 ≤ (rd_T97 l k).f0 ∧ (rd_T97 l k).f0 < 8 ∧ 0 ≤ (rd_T97 l k).f1 ∧ (rd_T97 l k).f1 < 8 then
      if rd ps (rd_T97 l k).f0 ≠ rd ps (rd_T97 l k).f1 then foGo l (fLink ps (rd ps (rd_T97 l k).f0) (rd ps (rd_T97 l k).f1)) ks else some false else none else none else none
def impl_isForest.f (l0 : List S97) (l1 : List Int) : Option Bool := foGo l0 (alRow 8) l1
set_option maxRecDepth 100000 in
set_option maxHeartbeats 8000000 in
theorem impl_isForest.calls (A0 : Option Addr) (c0 : Nat) (l0 : List S97) (A1 : Option Addr) (c1 : Nat) (l1 : List Int) (r : Bool) (w : World) (hr0 : Kd.C k97 w A0 l0.length l0) (hc0 : l0.length ≤ c0) (hr1 : Kd.C (Kd.int .i64) w A1 l1.length l1) (hc1 : l1.length ≤ c1) (h : impl_isForest.f l0 l1 = some r) :
    Calls Try.prog 81 #[.slice A0 l0.length c0, .slice A1 l1.length c1] w fun e w' => e = .returned (.bool r) ∧ Below w.heap.size w w' := by
  have HR0 := Aside0.mk hr0
  have HR1 := Aside0.mk hr1
  have hbig : l1.length ≤ 9223372036854775807 := hr1.2.1
  have H := Aside0.mk h
  clear hr0 hr1 hc0 hc1 h
  go_enter Try.func81, Try.ntmps81
  go_wp2_with (go_at_call 89; refine (fo_alone _).mono ?_; rintro e w' ⟨g, rfl, hg, hp, hb⟩)
  have HG := Aside0.mk hg
  clear hg
  go_loopg [11] l1.length (fun gg s11 wr => ∃ (m : Nat) (ps : List Int), m ≤ l1.length ∧ l1.length - m ≤ gg ∧ s11 = .int .i64 (m : Int) ∧ Aside0 (Parts wr g ps) ∧ Aside0 (Below w.heap.size w wr) ∧ Aside0 (foGo l0 ps (l1.drop m) = some r))
  case atStart => exact ⟨0, _, Nat.zero_le _, by omega, rfl, ⟨hp⟩, ⟨hb⟩, H⟩
  case round =>
    clear hp hb
    obtain ⟨m, ps, hm, hgk, rfl, HP, HB, HF⟩ := hrel
    by_cases hlt : m < l1.length
    · have hltz : (m : Int) < (l1.length : Int) := by omega
      have h0 : 0 ≤ (m : Int) := by omega
      obtain ⟨ad1, rfl, g1⟩ := Kd.at_int HR1.out (m : Int) h0 hltz
      replace g1 := (HB.out.cell (World.block_lt_of_cell? w _ g1)).trans g1
      have hr1 : rd l1 (m : Int) = l1[m] := by simp [rd, List.getD_eq_getElem?_getD, List.getElem?_eq_getElem hlt]
      have hd : l1.drop m = l1[m] :: l1.drop (m + 1) := List.drop_eq_getElem_cons hlt
      rw [hr1] at g1
      simp only [Int.toNat_natCast] at g1
      have H2 := HF.out
      rw [hd] at H2
      clear HF hd hr1
      generalize l1[m] = kx at g1 H2
      simp only [foGo] at H2
      by_cases k0 : 0 ≤ kx
      case neg => rw [if_neg k0] at H2; cases H2
      rw [if_pos k0] at H2
      by_cases k1 : kx < (l0.length : Int)
      case neg => rw [if_neg k1] at H2; cases H2
      rw [if_pos k1] at H2
      obtain ⟨ad0, rfl, e0, e1, e2⟩ := at_T97 HR0.out kx k0 k1
      replace e0 := (HB.out.cell (World.block_lt_of_cell? w _ e0)).trans e0
      replace e1 := (HB.out.cell (World.block_lt_of_cell? w _ e1)).trans e1
      generalize rd_T97 l0 kx = ed at e0 e1 e2 H2
      by_cases k2 : 0 ≤ ed.f0 ∧ ed.f0 < 8 ∧ 0 ≤ ed.f1 ∧ ed.f1 < 8
      case neg => rw [if_neg k2] at H2; cases H2
      rw [if_pos k2] at H2
      have hlink := fo_link g ps ed.f0 ed.f1 k2.1 k2.2.1 k2.2.2.1 k2.2.2.2 wr.drew w w.heap.size HP.out HG.out (below_drew1 HB.out)
      have H3 := Aside0.mk H2
      clear H2 e2
      by_cases hne : rd ps ed.f0 ≠ rd ps ed.f1
      · rw [decide_eq_true hne] at hlink
        go_wp2
        go_region_with (go_at_call 90; refine hlink.mono ?_; rintro e w2 ⟨rfl, hp2, hb2⟩)
        all_goals
          go_wp2
          go_roundg (l1.length - (m + 1))
          case measure => omega
          case rel =>
            have H4 := H3.out
            rw [if_pos hne] at H4
            exact ⟨m + 1, _, by omega, by omega, by go_num, ⟨hp2⟩, ⟨hb2⟩, ⟨H4⟩⟩
      · rw [decide_eq_false hne] at hlink
        go_wp2
        go_region_with (go_at_call 90; refine hlink.mono ?_; rintro e w2 ⟨rfl, hp2, hb2⟩)
        all_goals
          go_wp2
          go_ret
          have H4 := H3.out
          rw [if_neg hne] at H4
          obtain rfl := Option.some.inj H4
          exact ⟨rfl, hb2⟩
    · obtain rfl : m = l1.length := by omega
      have H4 := HF.out
      rw [List.drop_length] at H4
      simp only [foGo] at H4
      obtain rfl := Option.some.inj H4
      go_wp2
      go_ret
      exact ⟨rfl, HB.out⟩

/-! ### impl_IsForest: function 48 -/
def impl_IsForest.f (k : Nat) (l0 : List (S97)) (l1 : List Int) : Option (Bool × Bool) := (impl_GoodEdges.f l0).bind fun t157 => (if t157 = true then ((impl_rise.f k l1 (l0.length : Int)).bind fun t158 => (if t158 = true then ((impl_isForest.f l0 l1).bind fun t159 => (some (t159, true))) else (some (false, false)))) else (some (false, false)))
theorem impl_IsForest.mono : ∀ a0 a1 k, LeO (impl_IsForest.f k a0 a1) (impl_IsForest.f (k + 1) a0 a1) := by
  intro a0 a1 k
  unfold impl_IsForest.f
  repeat' first
      | (with_reducible exact impl_rise.mono _ _ _)
      | (with_reducible exact LeO.refl _)
      | (with_reducible exact LeO.none _)
      | (with_reducible refine LeO.ite ?_ ?_)
      | (with_reducible refine LeO.bind ?_ (fun _ => ?_))
      | exact impl_rise.mono _ _ _
      | exact LeO.none _
      | refine LeO.ite ?_ ?_
      | refine LeO.bind ?_ (fun _ => ?_)
set_option maxHeartbeats 8000000 in
set_option maxRecDepth 100000 in
theorem impl_IsForest.calls (k : Nat) (A0 : Option Addr) (c0 : Nat) (l0 : List (S97)) (A1 : Option Addr) (c1 : Nat) (l1 : List Int) (r1 : Bool) (r2 : Bool) (w : World) (hr0 : Kd.C k97 w A0 l0.length l0) (hc0 : l0.length ≤ c0) (hr1 : Kd.C (Kd.int .i64) w A1 l1.length l1) (hc1 : l1.length ≤ c1) (h : impl_IsForest.f k l0 l1 = some (r1, r2)) :
    Calls Try.prog 48 #[.slice A0 l0.length c0, .slice A1 l1.length c1] w fun e w' => e = .returned (.tuple #[.bool r1, .bool r2]) ∧ Below w.heap.size w w' := by
  have HR0 := Aside0.mk hr0
  have HC0 := Aside0.mk hc0
  clear hr0 hc0
  have HR1 := Aside0.mk hr1
  have HC1 := Aside0.mk hc1
  clear hr1 hc1
  have HB := Aside0.mk (Below.refl w.heap.size w)
  have H : ((impl_GoodEdges.f l0).bind fun t157 => (if t157 = true then ((impl_rise.f k l1 (l0.length : Int)).bind fun t158 => (if t158 = true then ((impl_isForest.f l0 l1).bind fun t159 => (some (t159, true))) else (some (false, false)))) else (some (false, false)))) = some (r1, r2) := h
  clear h
  replace H := Option.bind_eq_some_iff.mp H
  obtain ⟨t157, A30, H⟩ := H
  replace H : (if t157 = true then ((impl_rise.f k l1 (l0.length : Int)).bind fun t158 => (if t158 = true then ((impl_isForest.f l0 l1).bind fun t159 => (some (t159, true))) else (some (false, false)))) else (some (false, false))) = some (r1, r2) := H
  have A3 := Aside0.mk A30
  clear A30
  by_cases c4 : t157 = true
  · subst c4
    have H1 : ((impl_rise.f k l1 (l0.length : Int)).bind fun t158 => (if t158 = true then ((impl_isForest.f l0 l1).bind fun t159 => (some (t159, true))) else (some (false, false)))) = some (r1, r2) := by rw [if_pos rfl] at H; exact H
    clear H
    have H := H1
    clear H1
    replace H := Option.bind_eq_some_iff.mp H
    obtain ⟨t158, A50, H⟩ := H
    replace H : (if t158 = true then ((impl_isForest.f l0 l1).bind fun t159 => (some (t159, true))) else (some (false, false))) = some (r1, r2) := H
    have A5 := Aside0.mk A50
    clear A50
    by_cases c6 : t158 = true
    · subst c6
      have H1 : ((impl_isForest.f l0 l1).bind fun t159 => (some (t159, true))) = some (r1, r2) := by rw [if_pos rfl] at H; exact H
      clear H
      have H := H1
      clear H1
      replace H := Option.bind_eq_some_iff.mp H
      obtain ⟨t159, A70, H⟩ := H
      replace H : (some (t159, true)) = some (r1, r2) := H
      have A7 := Aside0.mk A70
      clear A70
      simp only [Option.some.injEq, Prod.mk.injEq] at H
      obtain ⟨rfl, rfl⟩ := H
      go_enter Try.func48, Try.ntmps48
      go_wp2_with (first | ((with_reducible refine gate_callee (f := 45) rfl ?_); refine goesL_ (some 7) rfl rfl Try.func45 (by kernel_rfl) rfl #[.slice A0 l0.length c0] rfl (by (try simp only [List.map_toArray, List.map_cons, List.map_nil]); first | done | rfl | (simp only [List.length_drop, List.length_take]; rfl)) ?_; (with_reducible refine (impl_GoodEdges.calls _ _ l0 true _ ?side1 ?side2 A3.out).mono ?_); (case side1 => repeat (first | exact HR0.out | (with_reducible refine Kd.C_alloc ?_ _) | (with_reducible refine Kd.C_drewN ?_ _) | (with_reducible refine Kd.C_drew ?_))); (case side2 => exact HC0.out); rintro e w8 ⟨rfl, hb⟩; refine ⟨_, rfl, ?_⟩; have n0_ := Aside0.mk (below_step (by repeat (first | (with_reducible first | exact HB.out | apply below_alloc | apply pw_below_drewN | apply below_drew1) | exact HB.out | (with_reducible exact Below.refl _ _))) hb); clear HB; have HB := n0_; clear n0_; (try clear hb); (try clear hb2); (try clear hk); (try clear hi)) | (go_at_call 80; (with_reducible refine (impl_rise.calls k _ _ l1 (l0.length : Int) true _ ?side1 ?side2 A5.out).mono ?_); (case side1 => repeat (first | exact (Kd.C_below HR1.out HB.out) | (with_reducible refine Kd.C_alloc ?_ _) | (with_reducible refine Kd.C_drewN ?_ _) | (with_reducible refine Kd.C_drew ?_))); (case side2 => exact HC1.out); rintro e w' ⟨rfl, ⟨nd, rfl⟩⟩) | ((with_reducible refine gate_callee (f := 81) rfl ?_); refine goesL_ (some 18) rfl rfl Try.func81 (by kernel_rfl) rfl #[.slice A0 l0.length c0, .slice A1 l1.length c1] rfl (by (try simp only [List.map_toArray, List.map_cons, List.map_nil]); first | done | rfl | (simp only [List.length_drop, List.length_take]; rfl)) ?_; (with_reducible refine (impl_isForest.calls _ _ l0 _ _ l1 t159 _ ?side1 ?side2 ?side3 ?side4 A7.out).mono ?_); (case side1 => repeat (first | exact (Kd.C_below HR0.out (by repeat (first | (with_reducible first | exact HB.out | apply below_alloc | apply pw_below_drewN | apply below_drew1) | exact HB.out | (with_reducible exact Below.refl _ _)))) | (with_reducible refine Kd.C_alloc ?_ _) | (with_reducible refine Kd.C_drewN ?_ _) | (with_reducible refine Kd.C_drew ?_))); (case side2 => exact HC0.out); (case side3 => repeat (first | exact (Kd.C_below HR1.out (by repeat (first | (with_reducible first | exact HB.out | apply below_alloc | apply pw_below_drewN | apply below_drew1) | exact HB.out | (with_reducible exact Below.refl _ _)))) | (with_reducible refine Kd.C_alloc ?_ _) | (with_reducible refine Kd.C_drewN ?_ _) | (with_reducible refine Kd.C_drew ?_))); (case side4 => exact HC1.out); rintro e w9 ⟨rfl, hb⟩; refine ⟨_, rfl, ?_⟩; have n0_ := Aside0.mk (below_step (by repeat (first | (with_reducible first | exact HB.out | apply below_alloc | apply pw_below_drewN | apply below_drew1) | exact HB.out | (with_reducible exact Below.refl _ _))) hb); clear HB; have HB := n0_; clear n0_; (try clear hb); (try clear hb2); (try clear hk); (try clear hi)))
      go_ret2
      exact ⟨by first | rfl | (simp [errW_none, errW_some] <;> rfl) | (simp [*, errW_none, errW_some] <;> rfl), by repeat (first | (with_reducible first | exact HB.out | apply below_alloc | apply pw_below_drewN | apply below_drew1) | exact HB.out | (with_reducible exact Below.refl _ _))⟩
    · replace c6 := Bool.eq_false_iff.mpr c6
      subst c6
      have H1 : (some (false, false)) = some (r1, r2) := by rw [if_neg (show ¬ (false = true) by decide)] at H; exact H
      clear H
      have H := H1
      clear H1
      simp only [Option.some.injEq, Prod.mk.injEq] at H
      obtain ⟨rfl, rfl⟩ := H
      go_enter Try.func48, Try.ntmps48
      go_wp2_with (first | ((with_reducible refine gate_callee (f := 45) rfl ?_); refine goesL_ (some 7) rfl rfl Try.func45 (by kernel_rfl) rfl #[.slice A0 l0.length c0] rfl (by (try simp only [List.map_toArray, List.map_cons, List.map_nil]); first | done | rfl | (simp only [List.length_drop, List.length_take]; rfl)) ?_; (with_reducible refine (impl_GoodEdges.calls _ _ l0 true _ ?side1 ?side2 A3.out).mono ?_); (case side1 => repeat (first | exact HR0.out | (with_reducible refine Kd.C_alloc ?_ _) | (with_reducible refine Kd.C_drewN ?_ _) | (with_reducible refine Kd.C_drew ?_))); (case side2 => exact HC0.out); rintro e w10 ⟨rfl, hb⟩; refine ⟨_, rfl, ?_⟩; have n0_ := Aside0.mk (below_step (by repeat (first | (with_reducible first | exact HB.out | apply below_alloc | apply pw_below_drewN | apply below_drew1) | exact HB.out | (with_reducible exact Below.refl _ _))) hb); clear HB; have HB := n0_; clear n0_; (try clear hb); (try clear hb2); (try clear hk); (try clear hi)) | (go_at_call 80; (with_reducible refine (impl_rise.calls k _ _ l1 (l0.length : Int) false _ ?side1 ?side2 A5.out).mono ?_); (case side1 => repeat (first | exact (Kd.C_below HR1.out HB.out) | (with_reducible refine Kd.C_alloc ?_ _) | (with_reducible refine Kd.C_drewN ?_ _) | (with_reducible refine Kd.C_drew ?_))); (case side2 => exact HC1.out); rintro e w' ⟨rfl, ⟨nd, rfl⟩⟩))
      go_ret2
      exact ⟨by first | rfl | (simp [errW_none, errW_some] <;> rfl) | (simp [*, errW_none, errW_some] <;> rfl), by repeat (first | (with_reducible first | exact HB.out | apply below_alloc | apply pw_below_drewN | apply below_drew1) | exact HB.out | (with_reducible exact Below.refl _ _))⟩
  · replace c4 := Bool.eq_false_iff.mpr c4
    subst c4
    have H1 : (some (false, false)) = some (r1, r2) := by rw [if_neg (show ¬ (false = true) by decide)] at H; exact H
    clear H
    have H := H1
    clear H1
    simp only [Option.some.injEq, Prod.mk.injEq] at H
    obtain ⟨rfl, rfl⟩ := H
    go_enter Try.func48, Try.ntmps48
    go_wp2_with (first | ((with_reducible refine gate_callee (f := 45) rfl ?_); refine goesL_ (some 7) rfl rfl Try.func45 (by kernel_rfl) rfl #[.slice A0 l0.length c0] rfl (by (try simp only [List.map_toArray, List.map_cons, List.map_nil]); first | done | rfl | (simp only [List.length_drop, List.length_take]; rfl)) ?_; (with_reducible refine (impl_GoodEdges.calls _ _ l0 false _ ?side1 ?side2 A3.out).mono ?_); (case side1 => repeat (first | exact HR0.out | (with_reducible refine Kd.C_alloc ?_ _) | (with_reducible refine Kd.C_drewN ?_ _) | (with_reducible refine Kd.C_drew ?_))); (case side2 => exact HC0.out); rintro e w11 ⟨rfl, hb⟩; refine ⟨_, rfl, ?_⟩; have n0_ := Aside0.mk (below_step (by repeat (first | (with_reducible first | exact HB.out | apply below_alloc | apply pw_below_drewN | apply below_drew1) | exact HB.out | (with_reducible exact Below.refl _ _))) hb); clear HB; have HB := n0_; clear n0_; (try clear hb); (try clear hb2); (try clear hk); (try clear hi)))
    go_ret2
    exact ⟨by first | rfl | (simp [errW_none, errW_some] <;> rfl) | (simp [*, errW_none, errW_some] <;> rfl), by repeat (first | (with_reducible first | exact HB.out | apply below_alloc | apply pw_below_drewN | apply below_drew1) | exact HB.out | (with_reducible exact Below.refl _ _))⟩

end Go.Proofs.Ytckndinhkkhonaa.QFnExactIsForest
