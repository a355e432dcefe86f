import Derived.Test.YtaffjcaohbkmoaaQFnExactSegmentsLeftx0
import Derived.Test.YtaffjcaohbkmoaaQFnExactSegmentsLeftx5
import Derived.Test.YtaffjcaohbkmoaaQFnExactSegmentsLeftx6
import Derived.Test.YtaffjcaohbkmoaaSr
import Derived.Test.YtaffjcaohbkmoaaSq
namespace Go.Proofs.Ytaffjcaohbkmoaa.QFnExactSegmentsLeft
open Go.RowKit Go.Proofs.YtaffjcaohbkmoaaW.PrintWords Go.Proofs.YtaffjcaohbkmoaaW.PrintLast Go.Proofs.YtaffjcaohbkmoaaW.PrintMore
attribute [local go_sem] max2_int min2_int max_two min_two max_three min_three max_four min_four   -- for this text's walks alone
set_option linter.unusedVariables false
set_option linter.unusedSimpArgs false
set_option maxHeartbeats 8000000 in
set_option maxRecDepth 100000 in
theorem impl_GoodSession.calls (k : Nat) (a0_0 : ByteArray) (A0_1 : Option Addr) (c0_1 : Nat) (l0_1 : List Bool) (A0_2 : Option Addr) (c0_2 : Nat) (l0_2 : List Bool) (a0_3 : ByteArray) (a0_4 : Bool) (A0_5 : Option Addr) (c0_5 : Nat) (l0_5 : List (S100)) (A0_6 : Option Addr) (c0_6 : Nat) (l0_6 : List (S100)) (r : Bool) (w : World) (hr0_1 : Kd.C Kd.bool w A0_1 l0_1.length l0_1) (hc0_1 : l0_1.length ≤ c0_1) (hr0_2 : Kd.C Kd.bool w A0_2 l0_2.length l0_2) (hc0_2 : l0_2.length ≤ c0_2) (hr0_5 : Kd.C k100 w A0_5 l0_5.length l0_5) (hc0_5 : l0_5.length ≤ c0_5) (hr0_6 : Kd.C k100 w A0_6 l0_6.length l0_6) (hc0_6 : l0_6.length ≤ c0_6) (h : impl_GoodSession.f k a0_0 l0_1 l0_2 a0_3 a0_4 l0_5 l0_6 = some r) :
  Calls Try.prog 55 #[.agg #[.string a0_0, .slice A0_1 l0_1.length c0_1, .slice A0_2 l0_2.length c0_2, .string a0_3, .bool a0_4, .slice A0_5 l0_5.length c0_5, .slice A0_6 l0_6.length c0_6]] w fun e w' => e = .returned (.bool r) ∧ Below w.heap.size w w' := by
 have hu48 := Try.underlying48; have hu100 := Try.underlying100; have HR0_1 := Aside0.mk hr0_1; have HC0_1 := Aside0.mk hc0_1; clear hr0_1 hc0_1; have HR0_2 := Aside0.mk hr0_2; have HC0_2 := Aside0.mk hc0_2; clear hr0_2 hc0_2; have HR0_5 := Aside0.mk hr0_5; have HC0_5 := Aside0.mk hc0_5; clear hr0_5 hc0_5; have HR0_6 := Aside0.mk hr0_6; have HC0_6 := Aside0.mk hc0_6; clear hr0_6 hc0_6; have HB := Aside0.mk (Below.refl w.heap.size w); have H : ((impl_isBlock.f a0_0).bind fun t194 => (if t194 = true then ((impl_many.f a0_0).bind fun t195 => (if (l0_2.length : Int) = t195 then ((impl_below.f k l0_1 l0_2).bind fun t196 => (if t196 = true then ((impl_Session_bytes.f a0_0 l0_1 l0_2 a0_3 a0_4 l0_5 l0_6).bind fun t197 => (if a0_3.toList = t197.toList then ((impl_isAll.f k l0_1).bind fun t198 => (if (a0_4 != t198) = true then (impl_GoodSession.j0 k true a0_0 l0_1 l0_2 a0_3 a0_4 l0_5 l0_6) else (if (l0_5.length : Int) > 30 then (impl_GoodSession.j0 k true a0_0 l0_1 l0_2 a0_3 a0_4 l0_5 l0_6) else (impl_GoodSession.j0 k (decide ((l0_6.length : Int) > 30)) a0_0 l0_1 l0_2 a0_3 a0_4 l0_5 l0_6)))) else (impl_GoodSession.j0 k true a0_0 l0_1 l0_2 a0_3 a0_4 l0_5 l0_6))) else (impl_GoodSession.j0 k true a0_0 l0_1 l0_2 a0_3 a0_4 l0_5 l0_6))) else (impl_GoodSession.j0 k true a0_0 l0_1 l0_2 a0_3 a0_4 l0_5 l0_6))) else (impl_GoodSession.j0 k true a0_0 l0_1 l0_2 a0_3 a0_4 l0_5 l0_6))) = some r := h; clear h; have HC2 := Aside0.mk H; clear H
 go_enter Try.func55, Try.ntmps55
 go_upto_region 1 with (first | ((with_reducible refine gate_dst (N := 1) rfl ?_); (try (refine gate_guard (by rfl) ?_; dsimp only)); refine box_event ?hg (N := 1) ?hd (cs := #[.string a0_0, .slice A0_1 l0_1.length c0_1, .slice A0_2 l0_2.length c0_2, .string a0_3, .bool a0_4, .slice A0_5 l0_5.length c0_5, .slice A0_6 l0_6.length c0_6]) (t := 48) ?hr ?_; (case hd => rfl); (case hg => rfl); (case hr => first | (go_simp; done) | (go_simp; rfl)); intro gb193 hg w3 hbox hb; have BK193 := Aside0.mk (hbox); have GW193 := ge_ HB hg; have GE193 := ge_ HB hg; replace HB := hb_ HB hb; clear hb hbox hg))
 (try simp only [Act.put, List.setIfInBounds_toArray, List.set_cons_zero, List.set_cons_succ])
 go_cut [54] (fun v54 wc => ∃ (kq : Nat) (x54_1 : Bool), v54 = .bool x54_1 ∧ Aside0 (impl_GoodSession.j0 kq x54_1 a0_0 l0_1 l0_2 a0_3 a0_4 l0_5 l0_6 = some r) ∧ Aside0 (kq ≤ k) ∧ Aside0 (wc.heap[gb193]? = some (.cells #[.string a0_0, (.slice A0_1 l0_1.length c0_1), (.slice A0_2 l0_2.length c0_2), .string a0_3, .bool a0_4, (.slice A0_5 l0_5.length c0_5), (.slice A0_6 l0_6.length c0_6)] 48 (0, 0))) ∧ Aside0 (Below w.heap.size w wc))
 case first =>
  have H := HC2.out; clear HC2; replace H := Option.bind_eq_some_iff.mp H; obtain ⟨t194, A40, H⟩ := H; (try dsimp only at H); have A4 := Aside0.mk A40; clear A40; by_cases c5 : t194 = true
  ·subst c5; rw [if_pos rfl] at H; replace H := Option.bind_eq_some_iff.mp H; obtain ⟨t195, A60, H⟩ := H; (try dsimp only at H); have A6 := Aside0.mk A60; clear A60; by_cases c7 : (l0_2.length : Int) = t195
   ·rw [if_pos c7] at H; have c7b0 : ((l0_2.length : Int) == t195) = true := beq_iff_eq.mpr c7; have c7b1 : ((l0_2.length : Int) != t195) = false := bne_eq_false_iff_eq.mpr c7; clear c7; (first | rw [c7b0] | (simp only [i64_w, i32_w]; rw [c7b0]) | skip); replace H := Option.bind_eq_some_iff.mp H; obtain ⟨t196, A80, H⟩ := H; (try dsimp only at H); have A8 := Aside0.mk A80; clear A80; by_cases c9 : t196 = true
    ·subst c9; rw [if_pos rfl] at H; replace H := Option.bind_eq_some_iff.mp H; obtain ⟨t197, A100, H⟩ := H; (try dsimp only at H); have A10 := Aside0.mk A100; clear A100; by_cases c11 : a0_3.toList = t197.toList
     ·rw [if_pos c11] at H; have c11b0 : (a0_3.toList == t197.toList) = true := beq_iff_eq.mpr c11; have c11b1 : (a0_3.toList != t197.toList) = false := bne_eq_false_iff_eq.mpr c11; clear c11; replace H := Option.bind_eq_some_iff.mp H; obtain ⟨t198, A120, H⟩ := H; (try dsimp only at H); have A12 := Aside0.mk A120; clear A120; by_cases c13 : (a0_4 != t198) = true
      ·rw [if_pos c13] at H; have c13b0 : (a0_4 != t198) = true := c13; (try (have c13b1 : decide (a0_4 = t198) = false := by simpa using c13)); (try (have c13b2 : (a0_4 == t198) = false := by simpa using c13)); (try (have c13b3 : ¬ (a0_4 = t198) := by simpa using c13)); clear c13; have H' := Aside0.mk H; clear H; try go_wp2
       replace BK193 := Aside0.mk (blk_drew BK193.out); replace HB := Aside0.mk (below_drew1 HB.out); refine start_ (n := 48) (S := fun w' => w'.cell? ⟨gb193, 0, none⟩ = some (.string a0_0) ∧ w'.cell? ⟨gb193, 1, none⟩ = some (.slice A0_1 l0_1.length c0_1) ∧ w'.cell? ⟨gb193, 2, none⟩ = some (.slice A0_2 l0_2.length c0_2) ∧ w'.cell? ⟨gb193, 3, none⟩ = some (.string a0_3) ∧ w'.cell? ⟨gb193, 4, none⟩ = some (.bool a0_4) ∧ w'.cell? ⟨gb193, 5, none⟩ = some (.slice A0_5 l0_5.length c0_5) ∧ w'.cell? ⟨gb193, 6, none⟩ = some (.slice A0_6 l0_6.length c0_6)) (ds := []) (mqN 48 0) (by kernel_rfl) rfl rfl ⟨(blk_cell BK193.out 0).trans rfl, (blk_cell BK193.out 1).trans rfl, (blk_cell BK193.out 2).trans rfl, (blk_cell BK193.out 3).trans rfl, (blk_cell BK193.out 4).trans rfl, (blk_cell BK193.out 5).trans rfl, (blk_cell BK193.out 6).trans rfl⟩ (fun hHeld => ?_); refine with_tabW impl_GoodSession.tab1 impl_GoodSession.bits1 (fun HT_ HW_ => ?_); generalize w3.drew = w14 at BK193 HB hHeld ⊢; refine pV 0 7 (mqN 48 1) ?_ rfl rfl (any_of HT_.out (by kernel_rfl)) (fun _ _ _ h => h) (Or.inl ⟨by rfl, ?_⟩) ?_ ?_ ?_; rotate_left
       ·intro w'; go_simp; with_reducible rfl
       rotate_left
       ·simp only [Act.put, setA, set0, setS, i64_w]; rfl
       refine take_ (i := 1) (N := some 8) (v := ?_) (a' := ?_) (mqN 48 2) rfl rfl (take_ofW HT_.out HW_.out (by kernel_rfl)) (fun _ _ _ h => h) (Or.inl ⟨by rfl, ?_⟩) hHeld ?_ ?_; rotate_left
       ·rintro w' ⟨s0, s1, s2, s3, s4, s5, s6⟩
        go_simp; with_reducible rfl
       rotate_left
       ·simp only [Act.put, setA, set0, setS, i64_w]; rfl
       refine one_ (i := 2) (N := some 9) (mqN 48 3) rfl rfl (one_of HT_.out (by kernel_rfl)) (by decide) (fun K hK => ?_); refine goes_ Try.func79 (by kernel_rfl) rfl #[.string a0_0] (by rfl) rfl rfl (by (try simp only [List.map_toArray, List.map_cons, List.map_nil]); first | done | rfl | (simp only [List.length_drop, List.length_take]; rfl)) ?_; with_reducible refine (impl_isBlock.calls a0_0 true _ A4.out).mono ?_
       rintro e w' ⟨rfl, ⟨nd, rfl⟩⟩
       refine ⟨_, rfl, ?_⟩; refine hK.out _ _ ⟨(blk_cell BK193.out 0).trans rfl, (blk_cell BK193.out 1).trans rfl, (blk_cell BK193.out 2).trans rfl, (blk_cell BK193.out 3).trans rfl, (blk_cell BK193.out 4).trans rfl, (blk_cell BK193.out 5).trans rfl, (blk_cell BK193.out 6).trans rfl⟩ (fun hHeld => ?_); clear hK K; refine norm_ (a' := ?_) ?_ ?_; rotate_left
       ·show Act.put _ (some 9) _ = _; simp only [Act.put, setA, set0, setS, i64_w]; rfl
       refine pV 3 10 (mqN 48 4) ?_ rfl rfl (any_of HT_.out (by kernel_rfl)) (fun _ _ _ h => h) (Or.inl ⟨by rfl, ?_⟩) ?_ ?_ ?_; rotate_left
       ·intro w'; go_simp; with_reducible rfl
       rotate_left
       ·simp only [Act.put, setA, set0, setS, i64_w]; rfl
       refine pV 4 11 (mqN 48 5) ?_ rfl rfl (any_of HT_.out (by kernel_rfl)) (fun _ _ _ h => h) (Or.inl ⟨by rfl, ?_⟩) ?_ ?_ ?_; rotate_left
       ·intro w'; go_simp; with_reducible rfl
       rotate_left
       ·simp only [Act.put, setA, set0, setS, i64_w]; rfl
       refine pV 5 12 (mqN 48 6) ?_ rfl rfl (any_of HT_.out (by kernel_rfl)) (fun _ _ _ h => h) (Or.inl ⟨by rfl, ?_⟩) ?_ ?_ ?_; rotate_left
       ·intro w'; go_simp; with_reducible rfl
       rotate_left
       ·simp only [Act.put, setA, set0, setS, i64_w]; rfl
       refine pV 8 15 #[tt,tt,tt,tt,tt,tt,ff,ff,tt,ff,ff,ff,ff,ff,ff,ff,ff,ff,ff,ff,ff,ff,ff,ff,ff,ff,ff,ff,ff,ff,ff,ff,ff,ff,ff,ff,ff,ff,ff,ff,ff,ff,ff,ff,ff,ff,ff,ff] ?_ rfl rfl (any_of HT_.out (by kernel_rfl)) (fun _ _ _ h => h) (Or.inl ⟨by rfl, ?_⟩) ?_ ?_ ?_; rotate_left
       ·intro w'; go_simp; with_reducible rfl
       rotate_left
       ·simp only [Act.put, setA, set0, setS, i64_w]; rfl
       refine take_ (i := 6) (N := some 13) (v := ?_) (a' := ?_) #[tt,tt,tt,tt,tt,tt,tt,ff,tt,ff,ff,ff,ff,ff,ff,ff,ff,ff,ff,ff,ff,ff,ff,ff,ff,ff,ff,ff,ff,ff,ff,ff,ff,ff,ff,ff,ff,ff,ff,ff,ff,ff,ff,ff,ff,ff,ff,ff] rfl rfl (take_ofW HT_.out HW_.out (by kernel_rfl)) (fun _ _ _ h => h) (Or.inl ⟨by rfl, ?_⟩) hHeld ?_ ?_; rotate_left
       ·rintro w' ⟨s0, s1, s2, s3, s4, s5, s6⟩
        go_simp; with_reducible rfl
       rotate_left
       ·simp only [Act.put, setA, set0, setS, i64_w]; rfl
       refine pV 7 14 (mqN 48 9) ?_ rfl rfl (any_of HT_.out (by kernel_rfl)) (fun _ _ _ h => h) (Or.inl ⟨by rfl, ?_⟩) ?_ ?_ ?_; rotate_left
       ·intro w'; go_simp; with_reducible rfl
       rotate_left
       ·simp only [Act.put, setA, set0, setS, i64_w]; rfl
       refine take_ (i := 9) (N := some 16) (v := ?_) (a' := ?_) (mqN 48 10) rfl rfl (take_ofW HT_.out HW_.out (by kernel_rfl)) (fun _ _ _ h => h) (Or.inl ⟨by rfl, ?_⟩) hHeld ?_ ?_; rotate_left
       ·rintro w' ⟨s0, s1, s2, s3, s4, s5, s6⟩
        go_simp; with_reducible rfl
       rotate_left
       ·simp only [Act.put, setA, set0, setS, i64_w]; rfl
       refine one_ (i := 10) (N := some 17) (mqN 48 11) rfl rfl (one_of HT_.out (by kernel_rfl)) (by decide) (fun K hK => ?_); refine goes_ Try.func80 (by kernel_rfl) rfl #[.string a0_0] (by rfl) rfl rfl (by (try simp only [List.map_toArray, List.map_cons, List.map_nil]); first | done | rfl | (simp only [List.length_drop, List.length_take]; rfl)) ?_; with_reducible refine (impl_many.calls a0_0 t195 _ A6.out).mono ?_
       rintro e w' ⟨rfl, ⟨nd, rfl⟩⟩
       refine ⟨_, rfl, ?_⟩; refine hK.out _ _ ⟨(blk_cell BK193.out 0).trans rfl, (blk_cell BK193.out 1).trans rfl, (blk_cell BK193.out 2).trans rfl, (blk_cell BK193.out 3).trans rfl, (blk_cell BK193.out 4).trans rfl, (blk_cell BK193.out 5).trans rfl, (blk_cell BK193.out 6).trans rfl⟩ (fun hHeld => ?_); clear hK K; refine norm_ (a' := ?_) ?_ ?_; rotate_left
       ·show Act.put _ (some 17) _ = _; simp only [Act.put, setA, set0, setS, i64_w]; rfl
       refine pV 11 18 (mqN 48 12) ?_ rfl rfl (any_of HT_.out (by kernel_rfl)) (fun _ _ _ h => h) (Or.inl ⟨by rfl, ?_⟩) ?_ ?_ ?_; rotate_left
       ·intro w'; go_simp; with_reducible rfl
       rotate_left
       ·simp only [Act.put, setA, set0, setS, i64_w]; rfl
       refine pV 12 19 (mqN 48 13) ?_ rfl rfl (any_of HT_.out (by kernel_rfl)) (fun _ _ _ h => h) (Or.inl ⟨by rfl, ?_⟩) ?_ ?_ ?_; rotate_left
       ·intro w'; go_simp; with_reducible rfl
       rotate_left
       ·simp only [Act.put, setA, set0, setS, i64_w]; rfl
       refine pV 13 20 (mqN 48 14) ?_ rfl rfl (any_of HT_.out (by kernel_rfl)) (fun _ _ _ h => h) (Or.inl ⟨by rfl, ?_⟩) ?_ ?_ ?_; rotate_left
       ·intro w'; go_simp; with_reducible rfl
       rotate_left
       ·simp only [Act.put, setA, set0, setS, i64_w]; rfl
       refine pV 14 21 (mqN 48 15) ?_ rfl rfl (any_of HT_.out (by kernel_rfl)) (fun _ _ _ h => h) (Or.inl ⟨by rfl, ?_⟩) ?_ ?_ ?_; rotate_left
       ·intro w'; go_simp; with_reducible rfl
       rotate_left
       ·simp only [Act.put, setA, set0, setS, i64_w]; rfl
       refine pV 16 23 #[tt,tt,tt,tt,tt,tt,tt,tt,tt,tt,tt,tt,tt,tt,tt,ff,tt,ff,ff,ff,ff,ff,ff,ff,ff,ff,ff,ff,ff,ff,ff,ff,ff,ff,ff,ff,ff,ff,ff,ff,ff,ff,ff,ff,ff,ff,ff,ff] ?_ rfl rfl (any_of HT_.out (by kernel_rfl)) (fun _ _ _ h => h) (Or.inl ⟨by rfl, ?_⟩) ?_ ?_ ?_; rotate_left
       ·intro w'; go_simp; with_reducible rfl
       rotate_left
       ·simp only [Act.put, setA, set0, setS, i64_w]; rfl
       refine take_ (i := 15) (N := some 22) (v := ?_) (a' := ?_) (mqN 48 17) rfl rfl (take_ofW HT_.out HW_.out (by kernel_rfl)) (fun _ _ _ h => h) (Or.inl ⟨by rfl, ?_⟩) hHeld ?_ ?_; rotate_left
       ·rintro w' ⟨s0, s1, s2, s3, s4, s5, s6⟩
        go_simp; with_reducible rfl
       rotate_left
       ·simp only [Act.put, setA, set0, setS, i64_w]; rfl
       refine take_ (i := 17) (N := some 24) (v := ?_) (a' := ?_) (mqN 48 18) rfl rfl (take_ofW HT_.out HW_.out (by kernel_rfl)) (fun _ _ _ h => h) (Or.inl ⟨by rfl, ?_⟩) hHeld ?_ ?_; rotate_left
       ·rintro w' ⟨s0, s1, s2, s3, s4, s5, s6⟩
        go_simp; with_reducible rfl
       rotate_left
       ·simp only [Act.put, setA, set0, setS, i64_w]; rfl
       refine one_ (i := 18) (N := some 25) (mqN 48 19) rfl rfl (one_of HT_.out (by kernel_rfl)) (by decide) (fun K hK => ?_); refine goes_ Try.func81 (by kernel_rfl) rfl #[.slice A0_1 l0_1.length c0_1, .slice A0_2 l0_2.length c0_2] (by rfl) rfl rfl (by (try simp only [List.map_toArray, List.map_cons, List.map_nil]); first | done | rfl | (simp only [List.length_drop, List.length_take]; rfl)) ?_; with_reducible refine (impl_below.calls k _ _ l0_1 _ _ l0_2 true _ ?side1 ?side2 ?side3 ?side4 A8.out).mono ?_
       (case side1 => repeat (first | exact (Kd.C_below HR0_1.out (by repeat (first | (with_reducible first | exact HB.out | apply below_alloc | apply pw_below_drewN | apply below_drew1 | refine below_set ?_ GE193.out) | exact HB.out | (with_reducible exact Below.refl _ _)))) | with_reducible first | refine Kd.C_alloc ?_ _ | refine Kd.C_drewN ?_ _ | refine Kd.C_drew ?_))
       (case side2 => exact HC0_1.out)
       (case side3 => repeat (first | exact (Kd.C_below HR0_2.out (by repeat (first | (with_reducible first | exact HB.out | apply below_alloc | apply pw_below_drewN | apply below_drew1 | refine below_set ?_ GE193.out) | exact HB.out | (with_reducible exact Below.refl _ _)))) | with_reducible first | refine Kd.C_alloc ?_ _ | refine Kd.C_drewN ?_ _ | refine Kd.C_drew ?_))
       (case side4 => exact HC0_2.out)
       rintro e w' ⟨rfl, ⟨nd, rfl⟩⟩
       refine ⟨_, rfl, ?_⟩; refine hK.out _ _ ⟨(blk_cell BK193.out 0).trans rfl, (blk_cell BK193.out 1).trans rfl, (blk_cell BK193.out 2).trans rfl, (blk_cell BK193.out 3).trans rfl, (blk_cell BK193.out 4).trans rfl, (blk_cell BK193.out 5).trans rfl, (blk_cell BK193.out 6).trans rfl⟩ (fun hHeld => ?_); clear hK K; refine norm_ (a' := ?_) ?_ ?_; rotate_left
       ·show Act.put _ (some 25) _ = _; simp only [Act.put, setA, set0, setS, i64_w]; rfl
       refine pV 19 26 (mqN 48 20) ?_ rfl rfl (any_of HT_.out (by kernel_rfl)) (fun _ _ _ h => h) (Or.inl ⟨by rfl, ?_⟩) ?_ ?_ ?_; rotate_left
       ·intro w'; go_simp; with_reducible rfl
       rotate_left
       ·simp only [Act.put, setA, set0, setS, i64_w]; rfl
       refine pV 20 27 (mqN 48 21) ?_ rfl rfl (any_of HT_.out (by kernel_rfl)) (fun _ _ _ h => h) (Or.inl ⟨by rfl, ?_⟩) ?_ ?_ ?_; rotate_left
       ·intro w'; go_simp; with_reducible rfl
       rotate_left
       ·simp only [Act.put, setA, set0, setS, i64_w]; rfl
       refine pV 21 28 (mqN 48 22) ?_ rfl rfl (any_of HT_.out (by kernel_rfl)) (fun _ _ _ h => h) (Or.inl ⟨by rfl, ?_⟩) ?_ ?_ ?_; rotate_left
       ·intro w'; go_simp; with_reducible rfl
       rotate_left
       ·simp only [Act.put, setA, set0, setS, i64_w]; rfl
       refine pV 22 29 (mqN 48 23) ?_ rfl rfl (any_of HT_.out (by kernel_rfl)) (fun _ _ _ h => h) (Or.inl ⟨by rfl, ?_⟩) ?_ ?_ ?_; rotate_left
       ·intro w'; go_simp; with_reducible rfl
       rotate_left
       ·simp only [Act.put, setA, set0, setS, i64_w]; rfl
       refine take_ (i := 23) (N := some 30) (v := ?_) (a' := ?_) (mqN 48 24) rfl rfl (take_ofW HT_.out HW_.out (by kernel_rfl)) (fun _ _ _ h => h) (Or.inl ⟨by rfl, ?_⟩) hHeld ?_ ?_; rotate_left
       ·rintro w' ⟨s0, s1, s2, s3, s4, s5, s6⟩
        go_simp; with_reducible rfl
       rotate_left
       ·simp only [Act.put, setA, set0, setS, i64_w]; rfl
       refine take_ (i := 24) (N := some 31) (v := ?_) (a' := ?_) (mqN 48 25) rfl rfl (take_ofW HT_.out HW_.out (by kernel_rfl)) (fun _ _ _ h => h) (Or.inl ⟨by rfl, ?_⟩) hHeld ?_ ?_; rotate_left
       ·rintro w' ⟨s0, s1, s2, s3, s4, s5, s6⟩
        go_simp; with_reducible rfl
       rotate_left
       ·simp only [Act.put, setA, set0, setS, i64_w]; rfl
       refine one_ (i := 25) (N := some 32) (mqN 48 26) rfl rfl (one_of HT_.out (by kernel_rfl)) (by decide) (fun K hK => ?_); refine goes_ Try.func82 (by kernel_rfl) rfl #[.agg #[.string a0_0, .slice A0_1 l0_1.length c0_1, .slice A0_2 l0_2.length c0_2, .string a0_3, .bool a0_4, .slice A0_5 l0_5.length c0_5, .slice A0_6 l0_6.length c0_6]] (by rfl) rfl rfl (by (try simp only [List.map_toArray, List.map_cons, List.map_nil]); first | done | rfl | (simp only [List.length_drop, List.length_take]; rfl)) ?_; with_reducible refine (impl_Session_bytes.calls a0_0 _ _ l0_1 _ _ l0_2 a0_3 a0_4 _ _ l0_5 _ _ l0_6 t197 _ ?side1 ?side2 ?side3 ?side4 ?side5 ?side6 ?side7 ?side8 A10.out).mono ?_
       (case side1 => repeat (first | exact (Kd.C_below HR0_1.out (by repeat (first | (with_reducible first | exact HB.out | apply below_alloc | apply pw_below_drewN | apply below_drew1 | refine below_set ?_ GE193.out) | exact HB.out | (with_reducible exact Below.refl _ _)))) | with_reducible first | refine Kd.C_alloc ?_ _ | refine Kd.C_drewN ?_ _ | refine Kd.C_drew ?_))
       (case side2 => exact HC0_1.out)
       (case side3 => repeat (first | exact (Kd.C_below HR0_2.out (by repeat (first | (with_reducible first | exact HB.out | apply below_alloc | apply pw_below_drewN | apply below_drew1 | refine below_set ?_ GE193.out) | exact HB.out | (with_reducible exact Below.refl _ _)))) | with_reducible first | refine Kd.C_alloc ?_ _ | refine Kd.C_drewN ?_ _ | refine Kd.C_drew ?_))
       (case side4 => exact HC0_2.out)
       (case side5 => repeat (first | exact (Kd.C_below HR0_5.out (by repeat (first | (with_reducible first | exact HB.out | apply below_alloc | apply pw_below_drewN | apply below_drew1 | refine below_set ?_ GE193.out) | exact HB.out | (with_reducible exact Below.refl _ _)))) | with_reducible first | refine Kd.C_alloc ?_ _ | refine Kd.C_drewN ?_ _ | refine Kd.C_drew ?_))
       (case side6 => exact HC0_5.out)
       (case side7 => repeat (first | exact (Kd.C_below HR0_6.out (by repeat (first | (with_reducible first | exact HB.out | apply below_alloc | apply pw_below_drewN | apply below_drew1 | refine below_set ?_ GE193.out) | exact HB.out | (with_reducible exact Below.refl _ _)))) | with_reducible first | refine Kd.C_alloc ?_ _ | refine Kd.C_drewN ?_ _ | refine Kd.C_drew ?_))
       (case side8 => exact HC0_6.out)
       rintro e w15 ⟨rfl, hb⟩
       refine ⟨_, rfl, ?_⟩; replace BK193 := ba_ BK193 hb; replace HB := hb_ HB hb; (try clear hb); (try clear hb2); (try clear hk); (try clear hi); refine hK.out _ _ ⟨(blk_cell BK193.out 0).trans rfl, (blk_cell BK193.out 1).trans rfl, (blk_cell BK193.out 2).trans rfl, (blk_cell BK193.out 3).trans rfl, (blk_cell BK193.out 4).trans rfl, (blk_cell BK193.out 5).trans rfl, (blk_cell BK193.out 6).trans rfl⟩ (fun hHeld => ?_); clear hK K; refine norm_ (a' := ?_) ?_ ?_; rotate_left
       ·show Act.put _ (some 32) _ = _; simp only [Act.put, setA, set0, setS, i64_w]; rfl
       refine pV 26 33 (mqN 48 27) ?_ rfl rfl (any_of HT_.out (by kernel_rfl)) (fun _ _ _ h => h) (Or.inl ⟨by rfl, ?_⟩) ?_ ?_ ?_; rotate_left
       ·intro w'; go_simp; with_reducible rfl
       rotate_left
       ·simp only [Act.put, setA, set0, setS, i64_w]; rfl
       refine pV 27 34 (mqN 48 28) ?_ rfl rfl (any_of HT_.out (by kernel_rfl)) (fun _ _ _ h => h) (Or.inl ⟨by rfl, ?_⟩) ?_ ?_ ?_; rotate_left
       ·intro w'; go_simp; with_reducible rfl
       rotate_left
       ·simp only [Act.put, setA, set0, setS, i64_w]; rfl
       refine pV 28 35 (mqN 48 29) ?_ rfl rfl (any_of HT_.out (by kernel_rfl)) (fun _ _ _ h => h) (Or.inl ⟨by rfl, ?_⟩) ?_ ?_ ?_; rotate_left
       ·intro w'; go_simp; with_reducible rfl
       rotate_left
       ·simp only [Act.put, setA, set0, setS, i64_w]; rfl
       refine pV 29 36 (mqN 48 30) ?_ rfl rfl (any_of HT_.out (by kernel_rfl)) (fun _ _ _ h => h) (Or.inl ⟨by rfl, ?_⟩) ?_ ?_ ?_; rotate_left
       ·intro w'; go_simp; with_reducible rfl
       rotate_left
       ·simp only [Act.put, setA, set0, setS, i64_w]; rfl
       refine pV 31 38 #[tt,tt,tt,tt,tt,tt,tt,tt,tt,tt,tt,tt,tt,tt,tt,tt,tt,tt,tt,tt,tt,tt,tt,tt,tt,tt,tt,tt,tt,tt,ff,tt,ff,ff,ff,ff,ff,ff,ff,ff,ff,ff,ff,ff,ff,ff,ff,ff] ?_ rfl rfl (any_of HT_.out (by kernel_rfl)) (fun _ _ _ h => h) (Or.inl ⟨by rfl, ?_⟩) ?_ ?_ ?_; rotate_left
       ·intro w'; go_simp; with_reducible rfl
       rotate_left
       ·simp only [Act.put, setA, set0, setS, i64_w]; rfl
       refine take_ (i := 30) (N := some 37) (v := ?_) (a' := ?_) (mqN 48 32) rfl rfl (take_ofW HT_.out HW_.out (by kernel_rfl)) (fun _ _ _ h => h) (Or.inl ⟨by rfl, ?_⟩) hHeld ?_ ?_; rotate_left
       ·rintro w' ⟨s0, s1, s2, s3, s4, s5, s6⟩
        go_simp; with_reducible rfl
       rotate_left
       ·simp only [Act.put, setA, set0, setS, i64_w]; rfl
       refine take_ (i := 32) (N := some 39) (v := ?_) (a' := ?_) (mqN 48 33) rfl rfl (take_ofW HT_.out HW_.out (by kernel_rfl)) (fun _ _ _ h => h) (Or.inl ⟨by rfl, ?_⟩) hHeld ?_ ?_; rotate_left
       ·rintro w' ⟨s0, s1, s2, s3, s4, s5, s6⟩
        go_simp; with_reducible rfl
       rotate_left
       ·simp only [Act.put, setA, set0, setS, i64_w]; rfl
       refine one_ (i := 33) (N := some 40) (mqN 48 34) rfl rfl (one_of HT_.out (by kernel_rfl)) (by decide) (fun K hK => ?_); refine goes_ Try.func83 (by kernel_rfl) rfl #[.slice A0_1 l0_1.length c0_1] (by rfl) rfl rfl (by (try simp only [List.map_toArray, List.map_cons, List.map_nil]); first | done | rfl | (simp only [List.length_drop, List.length_take]; rfl)) ?_; with_reducible refine (impl_isAll.calls k _ _ l0_1 t198 _ ?side1 ?side2 A12.out).mono ?_
       (case side1 => repeat (first | exact (Kd.C_below HR0_1.out HB.out) | with_reducible first | refine Kd.C_alloc ?_ _ | refine Kd.C_drewN ?_ _ | refine Kd.C_drew ?_))
       (case side2 => exact HC0_1.out)
       rintro e w' ⟨rfl, ⟨nd, rfl⟩⟩
       refine ⟨_, rfl, ?_⟩; refine hK.out _ _ ⟨(blk_cell BK193.out 0).trans rfl, (blk_cell BK193.out 1).trans rfl, (blk_cell BK193.out 2).trans rfl, (blk_cell BK193.out 3).trans rfl, (blk_cell BK193.out 4).trans rfl, (blk_cell BK193.out 5).trans rfl, (blk_cell BK193.out 6).trans rfl⟩ (fun hHeld => ?_); clear hK K; refine norm_ (a' := ?_) ?_ ?_; rotate_left
       ·show Act.put _ (some 40) _ = _; simp only [Act.put, setA, set0, setS, i64_w]; rfl
       refine pV 34 41 (mqN 48 35) ?_ rfl rfl (any_of HT_.out (by kernel_rfl)) (fun _ _ _ h => h) (Or.inl ⟨by rfl, ?_⟩) ?_ ?_ ?_; rotate_left
       ·intro w'; go_simp; with_reducible rfl
       rotate_left
       ·simp only [Act.put, setA, set0, setS, i64_w]; rfl
       refine pV 35 42 (mqN 48 36) ?_ rfl rfl (any_of HT_.out (by kernel_rfl)) (fun _ _ _ h => h) (Or.inl ⟨by rfl, ?_⟩) ?_ ?_ ?_; rotate_left
       ·intro w'; go_simp; with_reducible rfl
       rotate_left
       ·simp only [Act.put, setA, set0, setS, i64_w]; rfl
       refine pV 36 43 (mqN 48 37) ?_ rfl rfl (any_of HT_.out (by kernel_rfl)) (fun _ _ _ h => h) (Or.inl ⟨by rfl, ?_⟩) ?_ ?_ ?_; rotate_left
       ·intro w'; go_simp; with_reducible rfl
       rotate_left
       ·simp only [Act.put, setA, set0, setS, i64_w]; rfl
       refine pU 37 44 (mqN 48 38) rfl rfl (any_of HT_.out (by kernel_rfl)) (fun _ _ _ h => h) (Or.inr ⟨by rfl, rfl⟩) ?_ ?_ ?_; rotate_left
       ·simp only [Act.put, setA, set0, setS, i64_w]; rfl
       refine pU 38 45 (mqN 48 39) rfl rfl (any_of HT_.out (by kernel_rfl)) (fun _ _ _ h => h) (Or.inr ⟨by rfl, rfl⟩) ?_ ?_ ?_; rotate_left
       ·simp only [Act.put, setA, set0, setS, i64_w]; rfl
       refine pU 39 46 (mqN 48 40) rfl rfl (any_of HT_.out (by kernel_rfl)) (fun _ _ _ h => h) (Or.inr ⟨by rfl, rfl⟩) ?_ ?_ ?_; rotate_left
       ·simp only [Act.put, setA, set0, setS, i64_w]; rfl
       refine pU 40 47 (mqN 48 41) rfl rfl (any_of HT_.out (by kernel_rfl)) (fun _ _ _ h => h) (Or.inr ⟨by rfl, rfl⟩) ?_ ?_ ?_; rotate_left
       ·simp only [Act.put, setA, set0, setS, i64_w]; rfl
       refine pV 41 48 (mqN 48 42) ?_ rfl rfl (any_of HT_.out (by kernel_rfl)) (fun _ _ _ h => h) (Or.inl ⟨by rfl, ?_⟩) ?_ ?_ ?_; rotate_left
       ·intro w'; go_simp; with_reducible rfl
       rotate_left
       ·simp only [Act.put, setA, set0, setS, i64_w]; rfl
       refine pV 42 49 (mqN 48 43) ?_ rfl rfl (any_of HT_.out (by kernel_rfl)) (fun _ _ _ h => h) (Or.inl ⟨by rfl, ?_⟩) ?_ ?_ ?_; rotate_left
       ·intro w'; go_simp; with_reducible rfl
       rotate_left
       ·simp only [Act.put, setA, set0, setS, i64_w]; rfl
       refine pU 43 50 (mqN 48 44) rfl rfl (any_of HT_.out (by kernel_rfl)) (fun _ _ _ h => h) (Or.inr ⟨by rfl, rfl⟩) ?_ ?_ ?_; rotate_left
       ·simp only [Act.put, setA, set0, setS, i64_w]; rfl
       refine pU 44 51 (mqN 48 45) rfl rfl (any_of HT_.out (by kernel_rfl)) (fun _ _ _ h => h) (Or.inr ⟨by rfl, rfl⟩) ?_ ?_ ?_; rotate_left
       ·simp only [Act.put, setA, set0, setS, i64_w]; rfl
       refine pU 45 52 (mqN 48 46) rfl rfl (any_of HT_.out (by kernel_rfl)) (fun _ _ _ h => h) (Or.inr ⟨by rfl, rfl⟩) ?_ ?_ ?_; rotate_left
       ·simp only [Act.put, setA, set0, setS, i64_w]; rfl
       refine pU 46 53 (mqN 48 47) rfl rfl (any_of HT_.out (by kernel_rfl)) (fun _ _ _ h => h) (Or.inr ⟨by rfl, rfl⟩) ?_ ?_ ?_; rotate_left
       ·simp only [Act.put, setA, set0, setS, i64_w]; rfl
       refine pV 47 54 (mqN 48 48) ?_ rfl rfl (any_of HT_.out (by kernel_rfl)) (fun _ _ _ h => h) (Or.inl ⟨by rfl, ?_⟩) ?_ ?_ ?_; rotate_left
       ·intro w'; go_simp; with_reducible rfl
       rotate_left
       ·simp only [Act.put, setA, set0, setS, i64_w]; rfl
       refine done_ (done_of HT_.out (by kernel_rfl)) ?_; try go_wp2
       go_meet
       case rel => exact ⟨_, (true), (by first | rfl | (simp; done) | (simp [*]; done)), H', ⟨by first | omega | exact Nat.le_refl _⟩, ⟨by (with_reducible repeat (first | refine blk_drewN ?_ _ | refine blk_drew ?_ | refine blk_alloc ?_ _)); exact BK193.out⟩, ⟨by repeat (first | (with_reducible first | exact HB.out | apply below_alloc | apply pw_below_drewN | apply below_drew1 | refine below_set ?_ GE193.out) | exact HB.out | (with_reducible exact Below.refl _ _))⟩⟩
      ·rw [if_neg c13] at H; have c13b0 : (a0_4 != t198) = false := by simpa using c13
       (try (have c13b1 : decide (a0_4 = t198) = true := by simpa using c13)); (try (have c13b2 : (a0_4 == t198) = true := by simpa using c13)); clear c13; by_cases c16 : (l0_5.length : Int) > 30
       ·rw [if_pos c16] at H; have c16b0 : decide (30 < (l0_5.length : Int)) = true := decide_eq_true c16; have c16b1 : decide (30 < l0_5.length) = true := decide_eq_true (by omega); clear c16; have H' := Aside0.mk H; clear H; try go_wp2
        replace BK193 := Aside0.mk (blk_drew BK193.out); replace HB := Aside0.mk (below_drew1 HB.out); refine start_ (n := 48) (S := fun w' => w'.cell? ⟨gb193, 0, none⟩ = some (.string a0_0) ∧ w'.cell? ⟨gb193, 1, none⟩ = some (.slice A0_1 l0_1.length c0_1) ∧ w'.cell? ⟨gb193, 2, none⟩ = some (.slice A0_2 l0_2.length c0_2) ∧ w'.cell? ⟨gb193, 3, none⟩ = some (.string a0_3) ∧ w'.cell? ⟨gb193, 4, none⟩ = some (.bool a0_4) ∧ w'.cell? ⟨gb193, 5, none⟩ = some (.slice A0_5 l0_5.length c0_5) ∧ w'.cell? ⟨gb193, 6, none⟩ = some (.slice A0_6 l0_6.length c0_6)) (ds := []) (mqN 48 0) (by kernel_rfl) rfl rfl ⟨(blk_cell BK193.out 0).trans rfl, (blk_cell BK193.out 1).trans rfl, (blk_cell BK193.out 2).trans rfl, (blk_cell BK193.out 3).trans rfl, (blk_cell BK193.out 4).trans rfl, (blk_cell BK193.out 5).trans rfl, (blk_cell BK193.out 6).trans rfl⟩ (fun hHeld => ?_); refine with_tabW impl_GoodSession.tab1 impl_GoodSession.bits1 (fun HT_ HW_ => ?_); generalize w3.drew = w17 at BK193 HB hHeld ⊢; refine pV 0 7 (mqN 48 1) ?_ rfl rfl (any_of HT_.out (by kernel_rfl)) (fun _ _ _ h => h) (Or.inl ⟨by rfl, ?_⟩) ?_ ?_ ?_; rotate_left
        ·intro w'; go_simp; with_reducible rfl
        rotate_left
        ·simp only [Act.put, setA, set0, setS, i64_w]; rfl
        refine take_ (i := 1) (N := some 8) (v := ?_) (a' := ?_) (mqN 48 2) rfl rfl (take_ofW HT_.out HW_.out (by kernel_rfl)) (fun _ _ _ h => h) (Or.inl ⟨by rfl, ?_⟩) hHeld ?_ ?_; rotate_left
        ·rintro w' ⟨s0, s1, s2, s3, s4, s5, s6⟩
         go_simp; with_reducible rfl
        rotate_left
        ·simp only [Act.put, setA, set0, setS, i64_w]; rfl
        refine one_ (i := 2) (N := some 9) (mqN 48 3) rfl rfl (one_of HT_.out (by kernel_rfl)) (by decide) (fun K hK => ?_); refine goes_ Try.func79 (by kernel_rfl) rfl #[.string a0_0] (by rfl) rfl rfl (by (try simp only [List.map_toArray, List.map_cons, List.map_nil]); first | done | rfl | (simp only [List.length_drop, List.length_take]; rfl)) ?_; with_reducible refine (impl_isBlock.calls a0_0 true _ A4.out).mono ?_
        rintro e w' ⟨rfl, ⟨nd, rfl⟩⟩
        refine ⟨_, rfl, ?_⟩; refine hK.out _ _ ⟨(blk_cell BK193.out 0).trans rfl, (blk_cell BK193.out 1).trans rfl, (blk_cell BK193.out 2).trans rfl, (blk_cell BK193.out 3).trans rfl, (blk_cell BK193.out 4).trans rfl, (blk_cell BK193.out 5).trans rfl, (blk_cell BK193.out 6).trans rfl⟩ (fun hHeld => ?_); clear hK K; refine norm_ (a' := ?_) ?_ ?_; rotate_left
        ·show Act.put _ (some 9) _ = _; simp only [Act.put, setA, set0, setS, i64_w]; rfl
        refine pV 3 10 (mqN 48 4) ?_ rfl rfl (any_of HT_.out (by kernel_rfl)) (fun _ _ _ h => h) (Or.inl ⟨by rfl, ?_⟩) ?_ ?_ ?_; rotate_left
        ·intro w'; go_simp; with_reducible rfl
        rotate_left
        ·simp only [Act.put, setA, set0, setS, i64_w]; rfl
        refine pV 4 11 (mqN 48 5) ?_ rfl rfl (any_of HT_.out (by kernel_rfl)) (fun _ _ _ h => h) (Or.inl ⟨by rfl, ?_⟩) ?_ ?_ ?_; rotate_left
        ·intro w'; go_simp; with_reducible rfl
        rotate_left
        ·simp only [Act.put, setA, set0, setS, i64_w]; rfl
        refine pV 5 12 (mqN 48 6) ?_ rfl rfl (any_of HT_.out (by kernel_rfl)) (fun _ _ _ h => h) (Or.inl ⟨by rfl, ?_⟩) ?_ ?_ ?_; rotate_left
        ·intro w'; go_simp; with_reducible rfl
        rotate_left
        ·simp only [Act.put, setA, set0, setS, i64_w]; rfl
        refine pV 8 15 #[tt,tt,tt,tt,tt,tt,ff,ff,tt,ff,ff,ff,ff,ff,ff,ff,ff,ff,ff,ff,ff,ff,ff,ff,ff,ff,ff,ff,ff,ff,ff,ff,ff,ff,ff,ff,ff,ff,ff,ff,ff,ff,ff,ff,ff,ff,ff,ff] ?_ rfl rfl (any_of HT_.out (by kernel_rfl)) (fun _ _ _ h => h) (Or.inl ⟨by rfl, ?_⟩) ?_ ?_ ?_; rotate_left
        ·intro w'; go_simp; with_reducible rfl
        rotate_left
        ·simp only [Act.put, setA, set0, setS, i64_w]; rfl
        refine take_ (i := 6) (N := some 13) (v := ?_) (a' := ?_) #[tt,tt,tt,tt,tt,tt,tt,ff,tt,ff,ff,ff,ff,ff,ff,ff,ff,ff,ff,ff,ff,ff,ff,ff,ff,ff,ff,ff,ff,ff,ff,ff,ff,ff,ff,ff,ff,ff,ff,ff,ff,ff,ff,ff,ff,ff,ff,ff] rfl rfl (take_ofW HT_.out HW_.out (by kernel_rfl)) (fun _ _ _ h => h) (Or.inl ⟨by rfl, ?_⟩) hHeld ?_ ?_; rotate_left
        ·rintro w' ⟨s0, s1, s2, s3, s4, s5, s6⟩
         go_simp; with_reducible rfl
        rotate_left
        ·simp only [Act.put, setA, set0, setS, i64_w]; rfl
        refine pV 7 14 (mqN 48 9) ?_ rfl rfl (any_of HT_.out (by kernel_rfl)) (fun _ _ _ h => h) (Or.inl ⟨by rfl, ?_⟩) ?_ ?_ ?_; rotate_left
        ·intro w'; go_simp; with_reducible rfl
        rotate_left
        ·simp only [Act.put, setA, set0, setS, i64_w]; rfl
        refine take_ (i := 9) (N := some 16) (v := ?_) (a' := ?_) (mqN 48 10) rfl rfl (take_ofW HT_.out HW_.out (by kernel_rfl)) (fun _ _ _ h => h) (Or.inl ⟨by rfl, ?_⟩) hHeld ?_ ?_; rotate_left
        ·rintro w' ⟨s0, s1, s2, s3, s4, s5, s6⟩
         go_simp; with_reducible rfl
        rotate_left
        ·simp only [Act.put, setA, set0, setS, i64_w]; rfl
        refine one_ (i := 10) (N := some 17) (mqN 48 11) rfl rfl (one_of HT_.out (by kernel_rfl)) (by decide) (fun K hK => ?_); refine goes_ Try.func80 (by kernel_rfl) rfl #[.string a0_0] (by rfl) rfl rfl (by (try simp only [List.map_toArray, List.map_cons, List.map_nil]); first | done | rfl | (simp only [List.length_drop, List.length_take]; rfl)) ?_; with_reducible refine (impl_many.calls a0_0 t195 _ A6.out).mono ?_
        rintro e w' ⟨rfl, ⟨nd, rfl⟩⟩
        refine ⟨_, rfl, ?_⟩; refine hK.out _ _ ⟨(blk_cell BK193.out 0).trans rfl, (blk_cell BK193.out 1).trans rfl, (blk_cell BK193.out 2).trans rfl, (blk_cell BK193.out 3).trans rfl, (blk_cell BK193.out 4).trans rfl, (blk_cell BK193.out 5).trans rfl, (blk_cell BK193.out 6).trans rfl⟩ (fun hHeld => ?_); clear hK K; refine norm_ (a' := ?_) ?_ ?_; rotate_left
        ·show Act.put _ (some 17) _ = _; simp only [Act.put, setA, set0, setS, i64_w]; rfl
        refine pV 11 18 (mqN 48 12) ?_ rfl rfl (any_of HT_.out (by kernel_rfl)) (fun _ _ _ h => h) (Or.inl ⟨by rfl, ?_⟩) ?_ ?_ ?_; rotate_left
        ·intro w'; go_simp; with_reducible rfl
        rotate_left
        ·simp only [Act.put, setA, set0, setS, i64_w]; rfl
        refine pV 12 19 (mqN 48 13) ?_ rfl rfl (any_of HT_.out (by kernel_rfl)) (fun _ _ _ h => h) (Or.inl ⟨by rfl, ?_⟩) ?_ ?_ ?_; rotate_left
        ·intro w'; go_simp; with_reducible rfl
        rotate_left
        ·simp only [Act.put, setA, set0, setS, i64_w]; rfl
        refine pV 13 20 (mqN 48 14) ?_ rfl rfl (any_of HT_.out (by kernel_rfl)) (fun _ _ _ h => h) (Or.inl ⟨by rfl, ?_⟩) ?_ ?_ ?_; rotate_left
        ·intro w'; go_simp; with_reducible rfl
        rotate_left
        ·simp only [Act.put, setA, set0, setS, i64_w]; rfl
        refine pV 14 21 (mqN 48 15) ?_ rfl rfl (any_of HT_.out (by kernel_rfl)) (fun _ _ _ h => h) (Or.inl ⟨by rfl, ?_⟩) ?_ ?_ ?_; rotate_left
        ·intro w'; go_simp; with_reducible rfl
        rotate_left
        ·simp only [Act.put, setA, set0, setS, i64_w]; rfl
        refine pV 16 23 #[tt,tt,tt,tt,tt,tt,tt,tt,tt,tt,tt,tt,tt,tt,tt,ff,tt,ff,ff,ff,ff,ff,ff,ff,ff,ff,ff,ff,ff,ff,ff,ff,ff,ff,ff,ff,ff,ff,ff,ff,ff,ff,ff,ff,ff,ff,ff,ff] ?_ rfl rfl (any_of HT_.out (by kernel_rfl)) (fun _ _ _ h => h) (Or.inl ⟨by rfl, ?_⟩) ?_ ?_ ?_; rotate_left
        ·intro w'; go_simp; with_reducible rfl
        rotate_left
        ·simp only [Act.put, setA, set0, setS, i64_w]; rfl
        refine take_ (i := 15) (N := some 22) (v := ?_) (a' := ?_) (mqN 48 17) rfl rfl (take_ofW HT_.out HW_.out (by kernel_rfl)) (fun _ _ _ h => h) (Or.inl ⟨by rfl, ?_⟩) hHeld ?_ ?_; rotate_left
        ·rintro w' ⟨s0, s1, s2, s3, s4, s5, s6⟩
         go_simp; with_reducible rfl
        rotate_left
        ·simp only [Act.put, setA, set0, setS, i64_w]; rfl
        refine take_ (i := 17) (N := some 24) (v := ?_) (a' := ?_) (mqN 48 18) rfl rfl (take_ofW HT_.out HW_.out (by kernel_rfl)) (fun _ _ _ h => h) (Or.inl ⟨by rfl, ?_⟩) hHeld ?_ ?_; rotate_left
        ·rintro w' ⟨s0, s1, s2, s3, s4, s5, s6⟩
         go_simp; with_reducible rfl
        rotate_left
        ·simp only [Act.put, setA, set0, setS, i64_w]; rfl
        refine one_ (i := 18) (N := some 25) (mqN 48 19) rfl rfl (one_of HT_.out (by kernel_rfl)) (by decide) (fun K hK => ?_); refine goes_ Try.func81 (by kernel_rfl) rfl #[.slice A0_1 l0_1.length c0_1, .slice A0_2 l0_2.length c0_2] (by rfl) rfl rfl (by (try simp only [List.map_toArray, List.map_cons, List.map_nil]); first | done | rfl | (simp only [List.length_drop, List.length_take]; rfl)) ?_; with_reducible refine (impl_below.calls k _ _ l0_1 _ _ l0_2 true _ ?side1 ?side2 ?side3 ?side4 A8.out).mono ?_
        (case side1 => repeat (first | exact (Kd.C_below HR0_1.out (by repeat (first | (with_reducible first | exact HB.out | apply below_alloc | apply pw_below_drewN | apply below_drew1 | refine below_set ?_ GE193.out) | exact HB.out | (with_reducible exact Below.refl _ _)))) | with_reducible first | refine Kd.C_alloc ?_ _ | refine Kd.C_drewN ?_ _ | refine Kd.C_drew ?_))
        (case side2 => exact HC0_1.out)
        (case side3 => repeat (first | exact (Kd.C_below HR0_2.out (by repeat (first | (with_reducible first | exact HB.out | apply below_alloc | apply pw_below_drewN | apply below_drew1 | refine below_set ?_ GE193.out) | exact HB.out | (with_reducible exact Below.refl _ _)))) | with_reducible first | refine Kd.C_alloc ?_ _ | refine Kd.C_drewN ?_ _ | refine Kd.C_drew ?_))
        (case side4 => exact HC0_2.out)
        rintro e w' ⟨rfl, ⟨nd, rfl⟩⟩
        refine ⟨_, rfl, ?_⟩; refine hK.out _ _ ⟨(blk_cell BK193.out 0).trans rfl, (blk_cell BK193.out 1).trans rfl, (blk_cell BK193.out 2).trans rfl, (blk_cell BK193.out 3).trans rfl, (blk_cell BK193.out 4).trans rfl, (blk_cell BK193.out 5).trans rfl, (blk_cell BK193.out 6).trans rfl⟩ (fun hHeld => ?_); clear hK K; refine norm_ (a' := ?_) ?_ ?_; rotate_left
        ·show Act.put _ (some 25) _ = _; simp only [Act.put, setA, set0, setS, i64_w]; rfl
        refine pV 19 26 (mqN 48 20) ?_ rfl rfl (any_of HT_.out (by kernel_rfl)) (fun _ _ _ h => h) (Or.inl ⟨by rfl, ?_⟩) ?_ ?_ ?_; rotate_left
        ·intro w'; go_simp; with_reducible rfl
        rotate_left
        ·simp only [Act.put, setA, set0, setS, i64_w]; rfl
        refine pV 20 27 (mqN 48 21) ?_ rfl rfl (any_of HT_.out (by kernel_rfl)) (fun _ _ _ h => h) (Or.inl ⟨by rfl, ?_⟩) ?_ ?_ ?_; rotate_left
        ·intro w'; go_simp; with_reducible rfl
        rotate_left
        ·simp only [Act.put, setA, set0, setS, i64_w]; rfl
        refine pV 21 28 (mqN 48 22) ?_ rfl rfl (any_of HT_.out (by kernel_rfl)) (fun _ _ _ h => h) (Or.inl ⟨by rfl, ?_⟩) ?_ ?_ ?_; rotate_left
        ·intro w'; go_simp; with_reducible rfl
        rotate_left
        ·simp only [Act.put, setA, set0, setS, i64_w]; rfl
        refine pV 22 29 (mqN 48 23) ?_ rfl rfl (any_of HT_.out (by kernel_rfl)) (fun _ _ _ h => h) (Or.inl ⟨by rfl, ?_⟩) ?_ ?_ ?_; rotate_left
        ·intro w'; go_simp; with_reducible rfl
        rotate_left
        ·simp only [Act.put, setA, set0, setS, i64_w]; rfl
        refine take_ (i := 23) (N := some 30) (v := ?_) (a' := ?_) (mqN 48 24) rfl rfl (take_ofW HT_.out HW_.out (by kernel_rfl)) (fun _ _ _ h => h) (Or.inl ⟨by rfl, ?_⟩) hHeld ?_ ?_; rotate_left
        ·rintro w' ⟨s0, s1, s2, s3, s4, s5, s6⟩
         go_simp; with_reducible rfl
        rotate_left
        ·simp only [Act.put, setA, set0, setS, i64_w]; rfl
        refine take_ (i := 24) (N := some 31) (v := ?_) (a' := ?_) (mqN 48 25) rfl rfl (take_ofW HT_.out HW_.out (by kernel_rfl)) (fun _ _ _ h => h) (Or.inl ⟨by rfl, ?_⟩) hHeld ?_ ?_; rotate_left
        ·rintro w' ⟨s0, s1, s2, s3, s4, s5, s6⟩
         go_simp; with_reducible rfl
        rotate_left
        ·simp only [Act.put, setA, set0, setS, i64_w]; rfl
        refine one_ (i := 25) (N := some 32) (mqN 48 26) rfl rfl (one_of HT_.out (by kernel_rfl)) (by decide) (fun K hK => ?_); refine goes_ Try.func82 (by kernel_rfl) rfl #[.agg #[.string a0_0, .slice A0_1 l0_1.length c0_1, .slice A0_2 l0_2.length c0_2, .string a0_3, .bool a0_4, .slice A0_5 l0_5.length c0_5, .slice A0_6 l0_6.length c0_6]] (by rfl) rfl rfl (by (try simp only [List.map_toArray, List.map_cons, List.map_nil]); first | done | rfl | (simp only [List.length_drop, List.length_take]; rfl)) ?_; with_reducible refine (impl_Session_bytes.calls a0_0 _ _ l0_1 _ _ l0_2 a0_3 a0_4 _ _ l0_5 _ _ l0_6 t197 _ ?side1 ?side2 ?side3 ?side4 ?side5 ?side6 ?side7 ?side8 A10.out).mono ?_
        (case side1 => repeat (first | exact (Kd.C_below HR0_1.out (by repeat (first | (with_reducible first | exact HB.out | apply below_alloc | apply pw_below_drewN | apply below_drew1 | refine below_set ?_ GE193.out) | exact HB.out | (with_reducible exact Below.refl _ _)))) | with_reducible first | refine Kd.C_alloc ?_ _ | refine Kd.C_drewN ?_ _ | refine Kd.C_drew ?_))
        (case side2 => exact HC0_1.out)
        (case side3 => repeat (first | exact (Kd.C_below HR0_2.out (by repeat (first | (with_reducible first | exact HB.out | apply below_alloc | apply pw_below_drewN | apply below_drew1 | refine below_set ?_ GE193.out) | exact HB.out | (with_reducible exact Below.refl _ _)))) | with_reducible first | refine Kd.C_alloc ?_ _ | refine Kd.C_drewN ?_ _ | refine Kd.C_drew ?_))
        (case side4 => exact HC0_2.out)
        (case side5 => repeat (first | exact (Kd.C_below HR0_5.out (by repeat (first | (with_reducible first | exact HB.out | apply below_alloc | apply pw_below_drewN | apply below_drew1 | refine below_set ?_ GE193.out) | exact HB.out | (with_reducible exact Below.refl _ _)))) | with_reducible first | refine Kd.C_alloc ?_ _ | refine Kd.C_drewN ?_ _ | refine Kd.C_drew ?_))
        (case side6 => exact HC0_5.out)
        (case side7 => repeat (first | exact (Kd.C_below HR0_6.out (by repeat (first | (with_reducible first | exact HB.out | apply below_alloc | apply pw_below_drewN | apply below_drew1 | refine below_set ?_ GE193.out) | exact HB.out | (with_reducible exact Below.refl _ _)))) | with_reducible first | refine Kd.C_alloc ?_ _ | refine Kd.C_drewN ?_ _ | refine Kd.C_drew ?_))
        (case side8 => exact HC0_6.out)
        rintro e w18 ⟨rfl, hb⟩
        refine ⟨_, rfl, ?_⟩; replace BK193 := ba_ BK193 hb; replace HB := hb_ HB hb; (try clear hb); (try clear hb2); (try clear hk); (try clear hi); refine hK.out _ _ ⟨(blk_cell BK193.out 0).trans rfl, (blk_cell BK193.out 1).trans rfl, (blk_cell BK193.out 2).trans rfl, (blk_cell BK193.out 3).trans rfl, (blk_cell BK193.out 4).trans rfl, (blk_cell BK193.out 5).trans rfl, (blk_cell BK193.out 6).trans rfl⟩ (fun hHeld => ?_); clear hK K; refine norm_ (a' := ?_) ?_ ?_; rotate_left
        ·show Act.put _ (some 32) _ = _; simp only [Act.put, setA, set0, setS, i64_w]; rfl
        refine pV 26 33 (mqN 48 27) ?_ rfl rfl (any_of HT_.out (by kernel_rfl)) (fun _ _ _ h => h) (Or.inl ⟨by rfl, ?_⟩) ?_ ?_ ?_; rotate_left
        ·intro w'; go_simp; with_reducible rfl
        rotate_left
        ·simp only [Act.put, setA, set0, setS, i64_w]; rfl
        refine pV 27 34 (mqN 48 28) ?_ rfl rfl (any_of HT_.out (by kernel_rfl)) (fun _ _ _ h => h) (Or.inl ⟨by rfl, ?_⟩) ?_ ?_ ?_; rotate_left
        ·intro w'; go_simp; with_reducible rfl
        rotate_left
        ·simp only [Act.put, setA, set0, setS, i64_w]; rfl
        refine pV 28 35 (mqN 48 29) ?_ rfl rfl (any_of HT_.out (by kernel_rfl)) (fun _ _ _ h => h) (Or.inl ⟨by rfl, ?_⟩) ?_ ?_ ?_; rotate_left
        ·intro w'; go_simp; with_reducible rfl
        rotate_left
        ·simp only [Act.put, setA, set0, setS, i64_w]; rfl
        refine pV 29 36 (mqN 48 30) ?_ rfl rfl (any_of HT_.out (by kernel_rfl)) (fun _ _ _ h => h) (Or.inl ⟨by rfl, ?_⟩) ?_ ?_ ?_; rotate_left
        ·intro w'; go_simp; with_reducible rfl
        rotate_left
        ·simp only [Act.put, setA, set0, setS, i64_w]; rfl
        refine pV 31 38 #[tt,tt,tt,tt,tt,tt,tt,tt,tt,tt,tt,tt,tt,tt,tt,tt,tt,tt,tt,tt,tt,tt,tt,tt,tt,tt,tt,tt,tt,tt,ff,tt,ff,ff,ff,ff,ff,ff,ff,ff,ff,ff,ff,ff,ff,ff,ff,ff] ?_ rfl rfl (any_of HT_.out (by kernel_rfl)) (fun _ _ _ h => h) (Or.inl ⟨by rfl, ?_⟩) ?_ ?_ ?_; rotate_left
        ·intro w'; go_simp; with_reducible rfl
        rotate_left
        ·simp only [Act.put, setA, set0, setS, i64_w]; rfl
        refine take_ (i := 30) (N := some 37) (v := ?_) (a' := ?_) (mqN 48 32) rfl rfl (take_ofW HT_.out HW_.out (by kernel_rfl)) (fun _ _ _ h => h) (Or.inl ⟨by rfl, ?_⟩) hHeld ?_ ?_; rotate_left
        ·rintro w' ⟨s0, s1, s2, s3, s4, s5, s6⟩
         go_simp; with_reducible rfl
        rotate_left
        ·simp only [Act.put, setA, set0, setS, i64_w]; rfl
        refine take_ (i := 32) (N := some 39) (v := ?_) (a' := ?_) (mqN 48 33) rfl rfl (take_ofW HT_.out HW_.out (by kernel_rfl)) (fun _ _ _ h => h) (Or.inl ⟨by rfl, ?_⟩) hHeld ?_ ?_; rotate_left
        ·rintro w' ⟨s0, s1, s2, s3, s4, s5, s6⟩
         go_simp; with_reducible rfl
        rotate_left
        ·simp only [Act.put, setA, set0, setS, i64_w]; rfl
        refine one_ (i := 33) (N := some 40) (mqN 48 34) rfl rfl (one_of HT_.out (by kernel_rfl)) (by decide) (fun K hK => ?_); refine goes_ Try.func83 (by kernel_rfl) rfl #[.slice A0_1 l0_1.length c0_1] (by rfl) rfl rfl (by (try simp only [List.map_toArray, List.map_cons, List.map_nil]); first | done | rfl | (simp only [List.length_drop, List.length_take]; rfl)) ?_; with_reducible refine (impl_isAll.calls k _ _ l0_1 t198 _ ?side1 ?side2 A12.out).mono ?_
        (case side1 => repeat (first | exact (Kd.C_below HR0_1.out HB.out) | with_reducible first | refine Kd.C_alloc ?_ _ | refine Kd.C_drewN ?_ _ | refine Kd.C_drew ?_))
        (case side2 => exact HC0_1.out)
        rintro e w' ⟨rfl, ⟨nd, rfl⟩⟩
        refine ⟨_, rfl, ?_⟩; refine hK.out _ _ ⟨(blk_cell BK193.out 0).trans rfl, (blk_cell BK193.out 1).trans rfl, (blk_cell BK193.out 2).trans rfl, (blk_cell BK193.out 3).trans rfl, (blk_cell BK193.out 4).trans rfl, (blk_cell BK193.out 5).trans rfl, (blk_cell BK193.out 6).trans rfl⟩ (fun hHeld => ?_); clear hK K; refine norm_ (a' := ?_) ?_ ?_; rotate_left
        ·show Act.put _ (some 40) _ = _; simp only [Act.put, setA, set0, setS, i64_w]; rfl
        refine pV 34 41 (mqN 48 35) ?_ rfl rfl (any_of HT_.out (by kernel_rfl)) (fun _ _ _ h => h) (Or.inl ⟨by rfl, ?_⟩) ?_ ?_ ?_; rotate_left
        ·intro w'; go_simp; with_reducible rfl
        rotate_left
        ·simp only [Act.put, setA, set0, setS, i64_w]; rfl
        refine pV 35 42 (mqN 48 36) ?_ rfl rfl (any_of HT_.out (by kernel_rfl)) (fun _ _ _ h => h) (Or.inl ⟨by rfl, ?_⟩) ?_ ?_ ?_; rotate_left
        ·intro w'; go_simp; with_reducible rfl
        rotate_left
        ·simp only [Act.put, setA, set0, setS, i64_w]; rfl
        refine pV 36 43 (mqN 48 37) ?_ rfl rfl (any_of HT_.out (by kernel_rfl)) (fun _ _ _ h => h) (Or.inl ⟨by rfl, ?_⟩) ?_ ?_ ?_; rotate_left
        ·intro w'; go_simp; with_reducible rfl
        rotate_left
        ·simp only [Act.put, setA, set0, setS, i64_w]; rfl
        refine pV 37 44 (mqN 48 38) ?_ rfl rfl (any_of HT_.out (by kernel_rfl)) (fun _ _ _ h => h) (Or.inl ⟨by rfl, ?_⟩) ?_ ?_ ?_; rotate_left
        ·intro w'; go_simp; with_reducible rfl
        rotate_left
        ·simp only [Act.put, setA, set0, setS, i64_w]; rfl
        refine take_ (i := 38) (N := some 45) (v := ?_) (a' := ?_) (mqN 48 39) rfl rfl (take_ofW HT_.out HW_.out (by kernel_rfl)) (fun _ _ _ h => h) (Or.inl ⟨by rfl, ?_⟩) hHeld ?_ ?_; rotate_left
        ·rintro w' ⟨s0, s1, s2, s3, s4, s5, s6⟩
         go_simp; with_reducible rfl
        rotate_left
        ·simp only [Act.put, setA, set0, setS, i64_w]; rfl
        refine pV 39 46 (mqN 48 40) ?_ rfl rfl (any_of HT_.out (by kernel_rfl)) (fun _ _ _ h => h) (Or.inl ⟨by rfl, ?_⟩) ?_ ?_ ?_; rotate_left
        ·intro w'; go_simp; with_reducible rfl
        rotate_left
        ·simp only [Act.put, setA, set0, setS, i64_w]; rfl
        refine pV 40 47 (mqN 48 41) ?_ rfl rfl (any_of HT_.out (by kernel_rfl)) (fun _ _ _ h => h) (Or.inl ⟨by rfl, ?_⟩) ?_ ?_ ?_; rotate_left
        ·intro w'; go_simp; with_reducible rfl
        rotate_left
        ·simp only [Act.put, setA, set0, setS, i64_w]; rfl
        refine pV 41 48 (mqN 48 42) ?_ rfl rfl (any_of HT_.out (by kernel_rfl)) (fun _ _ _ h => h) (Or.inl ⟨by rfl, ?_⟩) ?_ ?_ ?_; rotate_left
        ·intro w'; go_simp; with_reducible rfl
        rotate_left
        ·simp only [Act.put, setA, set0, setS, i64_w]; rfl
        refine pV 42 49 (mqN 48 43) ?_ rfl rfl (any_of HT_.out (by kernel_rfl)) (fun _ _ _ h => h) (Or.inl ⟨by rfl, ?_⟩) ?_ ?_ ?_; rotate_left
        ·intro w'; go_simp; with_reducible rfl
        rotate_left
        ·simp only [Act.put, setA, set0, setS, i64_w]; rfl
        refine pU 43 50 (mqN 48 44) rfl rfl (any_of HT_.out (by kernel_rfl)) (fun _ _ _ h => h) (Or.inr ⟨by rfl, rfl⟩) ?_ ?_ ?_; rotate_left
        ·simp only [Act.put, setA, set0, setS, i64_w]; rfl
        refine pU 44 51 (mqN 48 45) rfl rfl (any_of HT_.out (by kernel_rfl)) (fun _ _ _ h => h) (Or.inr ⟨by rfl, rfl⟩) ?_ ?_ ?_; rotate_left
        ·simp only [Act.put, setA, set0, setS, i64_w]; rfl
        refine pU 45 52 (mqN 48 46) rfl rfl (any_of HT_.out (by kernel_rfl)) (fun _ _ _ h => h) (Or.inr ⟨by rfl, rfl⟩) ?_ ?_ ?_; rotate_left
        ·simp only [Act.put, setA, set0, setS, i64_w]; rfl
        refine pU 46 53 (mqN 48 47) rfl rfl (any_of HT_.out (by kernel_rfl)) (fun _ _ _ h => h) (Or.inr ⟨by rfl, rfl⟩) ?_ ?_ ?_; rotate_left
        ·simp only [Act.put, setA, set0, setS, i64_w]; rfl
        refine pV 47 54 (mqN 48 48) ?_ rfl rfl (any_of HT_.out (by kernel_rfl)) (fun _ _ _ h => h) (Or.inl ⟨by rfl, ?_⟩) ?_ ?_ ?_; rotate_left
        ·intro w'; go_simp; with_reducible rfl
        rotate_left
        ·simp only [Act.put, setA, set0, setS, i64_w]; rfl
        refine done_ (done_of HT_.out (by kernel_rfl)) ?_; try go_wp2
        go_meet
        case rel => exact ⟨_, (true), (by first | rfl | (simp; done) | (simp [*]; done)), H', ⟨by first | omega | exact Nat.le_refl _⟩, ⟨by (with_reducible repeat (first | refine blk_drewN ?_ _ | refine blk_drew ?_ | refine blk_alloc ?_ _)); exact BK193.out⟩, ⟨by repeat (first | (with_reducible first | exact HB.out | apply below_alloc | apply pw_below_drewN | apply below_drew1 | refine below_set ?_ GE193.out) | exact HB.out | (with_reducible exact Below.refl _ _))⟩⟩
       ·rw [if_neg c16] at H; have c16b0 : decide (30 < (l0_5.length : Int)) = false := decide_eq_false c16; have c16b1 : decide (30 < l0_5.length) = false := decide_eq_false (by omega); clear c16; have H' := Aside0.mk H; clear H; try go_wp2
        replace BK193 := Aside0.mk (blk_drew BK193.out); replace HB := Aside0.mk (below_drew1 HB.out); refine start_ (n := 48) (S := fun w' => w'.cell? ⟨gb193, 0, none⟩ = some (.string a0_0) ∧ w'.cell? ⟨gb193, 1, none⟩ = some (.slice A0_1 l0_1.length c0_1) ∧ w'.cell? ⟨gb193, 2, none⟩ = some (.slice A0_2 l0_2.length c0_2) ∧ w'.cell? ⟨gb193, 3, none⟩ = some (.string a0_3) ∧ w'.cell? ⟨gb193, 4, none⟩ = some (.bool a0_4) ∧ w'.cell? ⟨gb193, 5, none⟩ = some (.slice A0_5 l0_5.length c0_5) ∧ w'.cell? ⟨gb193, 6, none⟩ = some (.slice A0_6 l0_6.length c0_6)) (ds := []) (mqN 48 0) (by kernel_rfl) rfl rfl ⟨(blk_cell BK193.out 0).trans rfl, (blk_cell BK193.out 1).trans rfl, (blk_cell BK193.out 2).trans rfl, (blk_cell BK193.out 3).trans rfl, (blk_cell BK193.out 4).trans rfl, (blk_cell BK193.out 5).trans rfl, (blk_cell BK193.out 6).trans rfl⟩ (fun hHeld => ?_); refine with_tabW impl_GoodSession.tab1 impl_GoodSession.bits1 (fun HT_ HW_ => ?_); generalize w3.drew = w19 at BK193 HB hHeld ⊢; refine pV 0 7 (mqN 48 1) ?_ rfl rfl (any_of HT_.out (by kernel_rfl)) (fun _ _ _ h => h) (Or.inl ⟨by rfl, ?_⟩) ?_ ?_ ?_; rotate_left
        ·intro w'; go_simp; with_reducible rfl
        rotate_left
        ·simp only [Act.put, setA, set0, setS, i64_w]; rfl
        refine take_ (i := 1) (N := some 8) (v := ?_) (a' := ?_) (mqN 48 2) rfl rfl (take_ofW HT_.out HW_.out (by kernel_rfl)) (fun _ _ _ h => h) (Or.inl ⟨by rfl, ?_⟩) hHeld ?_ ?_; rotate_left
        ·rintro w' ⟨s0, s1, s2, s3, s4, s5, s6⟩
         go_simp; with_reducible rfl
        rotate_left
        ·simp only [Act.put, setA, set0, setS, i64_w]; rfl
        refine one_ (i := 2) (N := some 9) (mqN 48 3) rfl rfl (one_of HT_.out (by kernel_rfl)) (by decide) (fun K hK => ?_); refine goes_ Try.func79 (by kernel_rfl) rfl #[.string a0_0] (by rfl) rfl rfl (by (try simp only [List.map_toArray, List.map_cons, List.map_nil]); first | done | rfl | (simp only [List.length_drop, List.length_take]; rfl)) ?_; with_reducible refine (impl_isBlock.calls a0_0 true _ A4.out).mono ?_
        rintro e w' ⟨rfl, ⟨nd, rfl⟩⟩
        refine ⟨_, rfl, ?_⟩; refine hK.out _ _ ⟨(blk_cell BK193.out 0).trans rfl, (blk_cell BK193.out 1).trans rfl, (blk_cell BK193.out 2).trans rfl, (blk_cell BK193.out 3).trans rfl, (blk_cell BK193.out 4).trans rfl, (blk_cell BK193.out 5).trans rfl, (blk_cell BK193.out 6).trans rfl⟩ (fun hHeld => ?_); clear hK K; refine norm_ (a' := ?_) ?_ ?_; rotate_left
        ·show Act.put _ (some 9) _ = _; simp only [Act.put, setA, set0, setS, i64_w]; rfl
        refine pV 3 10 (mqN 48 4) ?_ rfl rfl (any_of HT_.out (by kernel_rfl)) (fun _ _ _ h => h) (Or.inl ⟨by rfl, ?_⟩) ?_ ?_ ?_; rotate_left
        ·intro w'; go_simp; with_reducible rfl
        rotate_left
        ·simp only [Act.put, setA, set0, setS, i64_w]; rfl
        refine pV 4 11 (mqN 48 5) ?_ rfl rfl (any_of HT_.out (by kernel_rfl)) (fun _ _ _ h => h) (Or.inl ⟨by rfl, ?_⟩) ?_ ?_ ?_; rotate_left
        ·intro w'; go_simp; with_reducible rfl
        rotate_left
        ·simp only [Act.put, setA, set0, setS, i64_w]; rfl
        refine pV 5 12 (mqN 48 6) ?_ rfl rfl (any_of HT_.out (by kernel_rfl)) (fun _ _ _ h => h) (Or.inl ⟨by rfl, ?_⟩) ?_ ?_ ?_; rotate_left
        ·intro w'; go_simp; with_reducible rfl
        rotate_left
        ·simp only [Act.put, setA, set0, setS, i64_w]; rfl
        refine pV 8 15 #[tt,tt,tt,tt,tt,tt,ff,ff,tt,ff,ff,ff,ff,ff,ff,ff,ff,ff,ff,ff,ff,ff,ff,ff,ff,ff,ff,ff,ff,ff,ff,ff,ff,ff,ff,ff,ff,ff,ff,ff,ff,ff,ff,ff,ff,ff,ff,ff] ?_ rfl rfl (any_of HT_.out (by kernel_rfl)) (fun _ _ _ h => h) (Or.inl ⟨by rfl, ?_⟩) ?_ ?_ ?_; rotate_left
        ·intro w'; go_simp; with_reducible rfl
        rotate_left
        ·simp only [Act.put, setA, set0, setS, i64_w]; rfl
        refine take_ (i := 6) (N := some 13) (v := ?_) (a' := ?_) #[tt,tt,tt,tt,tt,tt,tt,ff,tt,ff,ff,ff,ff,ff,ff,ff,ff,ff,ff,ff,ff,ff,ff,ff,ff,ff,ff,ff,ff,ff,ff,ff,ff,ff,ff,ff,ff,ff,ff,ff,ff,ff,ff,ff,ff,ff,ff,ff] rfl rfl (take_ofW HT_.out HW_.out (by kernel_rfl)) (fun _ _ _ h => h) (Or.inl ⟨by rfl, ?_⟩) hHeld ?_ ?_; rotate_left
        ·rintro w' ⟨s0, s1, s2, s3, s4, s5, s6⟩
         go_simp; with_reducible rfl
        rotate_left
        ·simp only [Act.put, setA, set0, setS, i64_w]; rfl
        refine pV 7 14 (mqN 48 9) ?_ rfl rfl (any_of HT_.out (by kernel_rfl)) (fun _ _ _ h => h) (Or.inl ⟨by rfl, ?_⟩) ?_ ?_ ?_; rotate_left
        ·intro w'; go_simp; with_reducible rfl
        rotate_left
        ·simp only [Act.put, setA, set0, setS, i64_w]; rfl
        refine take_ (i := 9) (N := some 16) (v := ?_) (a' := ?_) (mqN 48 10) rfl rfl (take_ofW HT_.out HW_.out (by kernel_rfl)) (fun _ _ _ h => h) (Or.inl ⟨by rfl, ?_⟩) hHeld ?_ ?_; rotate_left
        ·rintro w' ⟨s0, s1, s2, s3, s4, s5, s6⟩
         go_simp; with_reducible rfl
        rotate_left
        ·simp only [Act.put, setA, set0, setS, i64_w]; rfl
        refine one_ (i := 10) (N := some 17) (mqN 48 11) rfl rfl (one_of HT_.out (by kernel_rfl)) (by decide) (fun K hK => ?_); refine goes_ Try.func80 (by kernel_rfl) rfl #[.string a0_0] (by rfl) rfl rfl (by (try simp only [List.map_toArray, List.map_cons, List.map_nil]); first | done | rfl | (simp only [List.length_drop, List.length_take]; rfl)) ?_; with_reducible refine (impl_many.calls a0_0 t195 _ A6.out).mono ?_
        rintro e w' ⟨rfl, ⟨nd, rfl⟩⟩
        refine ⟨_, rfl, ?_⟩; refine hK.out _ _ ⟨(blk_cell BK193.out 0).trans rfl, (blk_cell BK193.out 1).trans rfl, (blk_cell BK193.out 2).trans rfl, (blk_cell BK193.out 3).trans rfl, (blk_cell BK193.out 4).trans rfl, (blk_cell BK193.out 5).trans rfl, (blk_cell BK193.out 6).trans rfl⟩ (fun hHeld => ?_); clear hK K; refine norm_ (a' := ?_) ?_ ?_; rotate_left
        ·show Act.put _ (some 17) _ = _; simp only [Act.put, setA, set0, setS, i64_w]; rfl
        refine pV 11 18 (mqN 48 12) ?_ rfl rfl (any_of HT_.out (by kernel_rfl)) (fun _ _ _ h => h) (Or.inl ⟨by rfl, ?_⟩) ?_ ?_ ?_; rotate_left
        ·intro w'; go_simp; with_reducible rfl
        rotate_left
        ·simp only [Act.put, setA, set0, setS, i64_w]; rfl
        refine pV 12 19 (mqN 48 13) ?_ rfl rfl (any_of HT_.out (by kernel_rfl)) (fun _ _ _ h => h) (Or.inl ⟨by rfl, ?_⟩) ?_ ?_ ?_; rotate_left
        ·intro w'; go_simp; with_reducible rfl
        rotate_left
        ·simp only [Act.put, setA, set0, setS, i64_w]; rfl
        refine pV 13 20 (mqN 48 14) ?_ rfl rfl (any_of HT_.out (by kernel_rfl)) (fun _ _ _ h => h) (Or.inl ⟨by rfl, ?_⟩) ?_ ?_ ?_; rotate_left
        ·intro w'; go_simp; with_reducible rfl
        rotate_left
        ·simp only [Act.put, setA, set0, setS, i64_w]; rfl
        refine pV 14 21 (mqN 48 15) ?_ rfl rfl (any_of HT_.out (by kernel_rfl)) (fun _ _ _ h => h) (Or.inl ⟨by rfl, ?_⟩) ?_ ?_ ?_; rotate_left
        ·intro w'; go_simp; with_reducible rfl
        rotate_left
        ·simp only [Act.put, setA, set0, setS, i64_w]; rfl
        refine pV 16 23 #[tt,tt,tt,tt,tt,tt,tt,tt,tt,tt,tt,tt,tt,tt,tt,ff,tt,ff,ff,ff,ff,ff,ff,ff,ff,ff,ff,ff,ff,ff,ff,ff,ff,ff,ff,ff,ff,ff,ff,ff,ff,ff,ff,ff,ff,ff,ff,ff] ?_ rfl rfl (any_of HT_.out (by kernel_rfl)) (fun _ _ _ h => h) (Or.inl ⟨by rfl, ?_⟩) ?_ ?_ ?_; rotate_left
        ·intro w'; go_simp; with_reducible rfl
        rotate_left
        ·simp only [Act.put, setA, set0, setS, i64_w]; rfl
        refine take_ (i := 15) (N := some 22) (v := ?_) (a' := ?_) (mqN 48 17) rfl rfl (take_ofW HT_.out HW_.out (by kernel_rfl)) (fun _ _ _ h => h) (Or.inl ⟨by rfl, ?_⟩) hHeld ?_ ?_; rotate_left
        ·rintro w' ⟨s0, s1, s2, s3, s4, s5, s6⟩
         go_simp; with_reducible rfl
        rotate_left
        ·simp only [Act.put, setA, set0, setS, i64_w]; rfl
        refine take_ (i := 17) (N := some 24) (v := ?_) (a' := ?_) (mqN 48 18) rfl rfl (take_ofW HT_.out HW_.out (by kernel_rfl)) (fun _ _ _ h => h) (Or.inl ⟨by rfl, ?_⟩) hHeld ?_ ?_; rotate_left
        ·rintro w' ⟨s0, s1, s2, s3, s4, s5, s6⟩
         go_simp; with_reducible rfl
        rotate_left
        ·simp only [Act.put, setA, set0, setS, i64_w]; rfl
        refine one_ (i := 18) (N := some 25) (mqN 48 19) rfl rfl (one_of HT_.out (by kernel_rfl)) (by decide) (fun K hK => ?_); refine goes_ Try.func81 (by kernel_rfl) rfl #[.slice A0_1 l0_1.length c0_1, .slice A0_2 l0_2.length c0_2] (by rfl) rfl rfl (by (try simp only [List.map_toArray, List.map_cons, List.map_nil]); first | done | rfl | (simp only [List.length_drop, List.length_take]; rfl)) ?_; with_reducible refine (impl_below.calls k _ _ l0_1 _ _ l0_2 true _ ?side1 ?side2 ?side3 ?side4 A8.out).mono ?_
        (case side1 => repeat (first | exact (Kd.C_below HR0_1.out (by repeat (first | (with_reducible first | exact HB.out | apply below_alloc | apply pw_below_drewN | apply below_drew1 | refine below_set ?_ GE193.out) | exact HB.out | (with_reducible exact Below.refl _ _)))) | with_reducible first | refine Kd.C_alloc ?_ _ | refine Kd.C_drewN ?_ _ | refine Kd.C_drew ?_))
        (case side2 => exact HC0_1.out)
        (case side3 => repeat (first | exact (Kd.C_below HR0_2.out (by repeat (first | (with_reducible first | exact HB.out | apply below_alloc | apply pw_below_drewN | apply below_drew1 | refine below_set ?_ GE193.out) | exact HB.out | (with_reducible exact Below.refl _ _)))) | with_reducible first | refine Kd.C_alloc ?_ _ | refine Kd.C_drewN ?_ _ | refine Kd.C_drew ?_))
        (case side4 => exact HC0_2.out)
        rintro e w' ⟨rfl, ⟨nd, rfl⟩⟩
        refine ⟨_, rfl, ?_⟩; refine hK.out _ _ ⟨(blk_cell BK193.out 0).trans rfl, (blk_cell BK193.out 1).trans rfl, (blk_cell BK193.out 2).trans rfl, (blk_cell BK193.out 3).trans rfl, (blk_cell BK193.out 4).trans rfl, (blk_cell BK193.out 5).trans rfl, (blk_cell BK193.out 6).trans rfl⟩ (fun hHeld => ?_); clear hK K; refine norm_ (a' := ?_) ?_ ?_; rotate_left
        ·show Act.put _ (some 25) _ = _; simp only [Act.put, setA, set0, setS, i64_w]; rfl
        refine pV 19 26 (mqN 48 20) ?_ rfl rfl (any_of HT_.out (by kernel_rfl)) (fun _ _ _ h => h) (Or.inl ⟨by rfl, ?_⟩) ?_ ?_ ?_; rotate_left
        ·intro w'; go_simp; with_reducible rfl
        rotate_left
        ·simp only [Act.put, setA, set0, setS, i64_w]; rfl
        refine pV 20 27 (mqN 48 21) ?_ rfl rfl (any_of HT_.out (by kernel_rfl)) (fun _ _ _ h => h) (Or.inl ⟨by rfl, ?_⟩) ?_ ?_ ?_; rotate_left
        ·intro w'; go_simp; with_reducible rfl
        rotate_left
        ·simp only [Act.put, setA, set0, setS, i64_w]; rfl
        refine pV 21 28 (mqN 48 22) ?_ rfl rfl (any_of HT_.out (by kernel_rfl)) (fun _ _ _ h => h) (Or.inl ⟨by rfl, ?_⟩) ?_ ?_ ?_; rotate_left
        ·intro w'; go_simp; with_reducible rfl
        rotate_left
        ·simp only [Act.put, setA, set0, setS, i64_w]; rfl
        refine pV 22 29 (mqN 48 23) ?_ rfl rfl (any_of HT_.out (by kernel_rfl)) (fun _ _ _ h => h) (Or.inl ⟨by rfl, ?_⟩) ?_ ?_ ?_; rotate_left
        ·intro w'; go_simp; with_reducible rfl
        rotate_left
        ·simp only [Act.put, setA, set0, setS, i64_w]; rfl
        refine take_ (i := 23) (N := some 30) (v := ?_) (a' := ?_) (mqN 48 24) rfl rfl (take_ofW HT_.out HW_.out (by kernel_rfl)) (fun _ _ _ h => h) (Or.inl ⟨by rfl, ?_⟩) hHeld ?_ ?_; rotate_left
        ·rintro w' ⟨s0, s1, s2, s3, s4, s5, s6⟩
         go_simp; with_reducible rfl
        rotate_left
        ·simp only [Act.put, setA, set0, setS, i64_w]; rfl
        refine take_ (i := 24) (N := some 31) (v := ?_) (a' := ?_) (mqN 48 25) rfl rfl (take_ofW HT_.out HW_.out (by kernel_rfl)) (fun _ _ _ h => h) (Or.inl ⟨by rfl, ?_⟩) hHeld ?_ ?_; rotate_left
        ·rintro w' ⟨s0, s1, s2, s3, s4, s5, s6⟩
         go_simp; with_reducible rfl
        rotate_left
        ·simp only [Act.put, setA, set0, setS, i64_w]; rfl
        refine one_ (i := 25) (N := some 32) (mqN 48 26) rfl rfl (one_of HT_.out (by kernel_rfl)) (by decide) (fun K hK => ?_); refine goes_ Try.func82 (by kernel_rfl) rfl #[.agg #[.string a0_0, .slice A0_1 l0_1.length c0_1, .slice A0_2 l0_2.length c0_2, .string a0_3, .bool a0_4, .slice A0_5 l0_5.length c0_5, .slice A0_6 l0_6.length c0_6]] (by rfl) rfl rfl (by (try simp only [List.map_toArray, List.map_cons, List.map_nil]); first | done | rfl | (simp only [List.length_drop, List.length_take]; rfl)) ?_; with_reducible refine (impl_Session_bytes.calls a0_0 _ _ l0_1 _ _ l0_2 a0_3 a0_4 _ _ l0_5 _ _ l0_6 t197 _ ?side1 ?side2 ?side3 ?side4 ?side5 ?side6 ?side7 ?side8 A10.out).mono ?_
        (case side1 => repeat (first | exact (Kd.C_below HR0_1.out (by repeat (first | (with_reducible first | exact HB.out | apply below_alloc | apply pw_below_drewN | apply below_drew1 | refine below_set ?_ GE193.out) | exact HB.out | (with_reducible exact Below.refl _ _)))) | with_reducible first | refine Kd.C_alloc ?_ _ | refine Kd.C_drewN ?_ _ | refine Kd.C_drew ?_))
        (case side2 => exact HC0_1.out)
        (case side3 => repeat (first | exact (Kd.C_below HR0_2.out (by repeat (first | (with_reducible first | exact HB.out | apply below_alloc | apply pw_below_drewN | apply below_drew1 | refine below_set ?_ GE193.out) | exact HB.out | (with_reducible exact Below.refl _ _)))) | with_reducible first | refine Kd.C_alloc ?_ _ | refine Kd.C_drewN ?_ _ | refine Kd.C_drew ?_))
        (case side4 => exact HC0_2.out)
        (case side5 => repeat (first | exact (Kd.C_below HR0_5.out (by repeat (first | (with_reducible first | exact HB.out | apply below_alloc | apply pw_below_drewN | apply below_drew1 | refine below_set ?_ GE193.out) | exact HB.out | (with_reducible exact Below.refl _ _)))) | with_reducible first | refine Kd.C_alloc ?_ _ | refine Kd.C_drewN ?_ _ | refine Kd.C_drew ?_))
        (case side6 => exact HC0_5.out)
        (case side7 => repeat (first | exact (Kd.C_below HR0_6.out (by repeat (first | (with_reducible first | exact HB.out | apply below_alloc | apply pw_below_drewN | apply below_drew1 | refine below_set ?_ GE193.out) | exact HB.out | (with_reducible exact Below.refl _ _)))) | with_reducible first | refine Kd.C_alloc ?_ _ | refine Kd.C_drewN ?_ _ | refine Kd.C_drew ?_))
        (case side8 => exact HC0_6.out)
        rintro e w20 ⟨rfl, hb⟩
        refine ⟨_, rfl, ?_⟩; replace BK193 := ba_ BK193 hb; replace HB := hb_ HB hb; (try clear hb); (try clear hb2); (try clear hk); (try clear hi); refine hK.out _ _ ⟨(blk_cell BK193.out 0).trans rfl, (blk_cell BK193.out 1).trans rfl, (blk_cell BK193.out 2).trans rfl, (blk_cell BK193.out 3).trans rfl, (blk_cell BK193.out 4).trans rfl, (blk_cell BK193.out 5).trans rfl, (blk_cell BK193.out 6).trans rfl⟩ (fun hHeld => ?_); clear hK K; refine norm_ (a' := ?_) ?_ ?_; rotate_left
        ·show Act.put _ (some 32) _ = _; simp only [Act.put, setA, set0, setS, i64_w]; rfl
        refine pV 26 33 (mqN 48 27) ?_ rfl rfl (any_of HT_.out (by kernel_rfl)) (fun _ _ _ h => h) (Or.inl ⟨by rfl, ?_⟩) ?_ ?_ ?_; rotate_left
        ·intro w'; go_simp; with_reducible rfl
        rotate_left
        ·simp only [Act.put, setA, set0, setS, i64_w]; rfl
        refine pV 27 34 (mqN 48 28) ?_ rfl rfl (any_of HT_.out (by kernel_rfl)) (fun _ _ _ h => h) (Or.inl ⟨by rfl, ?_⟩) ?_ ?_ ?_; rotate_left
        ·intro w'; go_simp; with_reducible rfl
        rotate_left
        ·simp only [Act.put, setA, set0, setS, i64_w]; rfl
        refine pV 28 35 (mqN 48 29) ?_ rfl rfl (any_of HT_.out (by kernel_rfl)) (fun _ _ _ h => h) (Or.inl ⟨by rfl, ?_⟩) ?_ ?_ ?_; rotate_left
        ·intro w'; go_simp; with_reducible rfl
        rotate_left
        ·simp only [Act.put, setA, set0, setS, i64_w]; rfl
        refine pV 29 36 (mqN 48 30) ?_ rfl rfl (any_of HT_.out (by kernel_rfl)) (fun _ _ _ h => h) (Or.inl ⟨by rfl, ?_⟩) ?_ ?_ ?_; rotate_left
        ·intro w'; go_simp; with_reducible rfl
        rotate_left
        ·simp only [Act.put, setA, set0, setS, i64_w]; rfl
        refine pV 31 38 #[tt,tt,tt,tt,tt,tt,tt,tt,tt,tt,tt,tt,tt,tt,tt,tt,tt,tt,tt,tt,tt,tt,tt,tt,tt,tt,tt,tt,tt,tt,ff,tt,ff,ff,ff,ff,ff,ff,ff,ff,ff,ff,ff,ff,ff,ff,ff,ff] ?_ rfl rfl (any_of HT_.out (by kernel_rfl)) (fun _ _ _ h => h) (Or.inl ⟨by rfl, ?_⟩) ?_ ?_ ?_; rotate_left
        ·intro w'; go_simp; with_reducible rfl
        rotate_left
        ·simp only [Act.put, setA, set0, setS, i64_w]; rfl
        refine take_ (i := 30) (N := some 37) (v := ?_) (a' := ?_) (mqN 48 32) rfl rfl (take_ofW HT_.out HW_.out (by kernel_rfl)) (fun _ _ _ h => h) (Or.inl ⟨by rfl, ?_⟩) hHeld ?_ ?_; rotate_left
        ·rintro w' ⟨s0, s1, s2, s3, s4, s5, s6⟩
         go_simp; with_reducible rfl
        rotate_left
        ·simp only [Act.put, setA, set0, setS, i64_w]; rfl
        refine take_ (i := 32) (N := some 39) (v := ?_) (a' := ?_) (mqN 48 33) rfl rfl (take_ofW HT_.out HW_.out (by kernel_rfl)) (fun _ _ _ h => h) (Or.inl ⟨by rfl, ?_⟩) hHeld ?_ ?_; rotate_left
        ·rintro w' ⟨s0, s1, s2, s3, s4, s5, s6⟩
         go_simp; with_reducible rfl
        rotate_left
        ·simp only [Act.put, setA, set0, setS, i64_w]; rfl
        refine one_ (i := 33) (N := some 40) (mqN 48 34) rfl rfl (one_of HT_.out (by kernel_rfl)) (by decide) (fun K hK => ?_); refine goes_ Try.func83 (by kernel_rfl) rfl #[.slice A0_1 l0_1.length c0_1] (by rfl) rfl rfl (by (try simp only [List.map_toArray, List.map_cons, List.map_nil]); first | done | rfl | (simp only [List.length_drop, List.length_take]; rfl)) ?_; with_reducible refine (impl_isAll.calls k _ _ l0_1 t198 _ ?side1 ?side2 A12.out).mono ?_
        (case side1 => repeat (first | exact (Kd.C_below HR0_1.out HB.out) | with_reducible first | refine Kd.C_alloc ?_ _ | refine Kd.C_drewN ?_ _ | refine Kd.C_drew ?_))
        (case side2 => exact HC0_1.out)
        rintro e w' ⟨rfl, ⟨nd, rfl⟩⟩
        refine ⟨_, rfl, ?_⟩; refine hK.out _ _ ⟨(blk_cell BK193.out 0).trans rfl, (blk_cell BK193.out 1).trans rfl, (blk_cell BK193.out 2).trans rfl, (blk_cell BK193.out 3).trans rfl, (blk_cell BK193.out 4).trans rfl, (blk_cell BK193.out 5).trans rfl, (blk_cell BK193.out 6).trans rfl⟩ (fun hHeld => ?_); clear hK K; refine norm_ (a' := ?_) ?_ ?_; rotate_left
        ·show Act.put _ (some 40) _ = _; simp only [Act.put, setA, set0, setS, i64_w]; rfl
        refine pV 34 41 (mqN 48 35) ?_ rfl rfl (any_of HT_.out (by kernel_rfl)) (fun _ _ _ h => h) (Or.inl ⟨by rfl, ?_⟩) ?_ ?_ ?_; rotate_left
        ·intro w'; go_simp; with_reducible rfl
        rotate_left
        ·simp only [Act.put, setA, set0, setS, i64_w]; rfl
        refine pV 35 42 (mqN 48 36) ?_ rfl rfl (any_of HT_.out (by kernel_rfl)) (fun _ _ _ h => h) (Or.inl ⟨by rfl, ?_⟩) ?_ ?_ ?_; rotate_left
        ·intro w'; go_simp; with_reducible rfl
        rotate_left
        ·simp only [Act.put, setA, set0, setS, i64_w]; rfl
        refine pV 36 43 (mqN 48 37) ?_ rfl rfl (any_of HT_.out (by kernel_rfl)) (fun _ _ _ h => h) (Or.inl ⟨by rfl, ?_⟩) ?_ ?_ ?_; rotate_left
        ·intro w'; go_simp; with_reducible rfl
        rotate_left
        ·simp only [Act.put, setA, set0, setS, i64_w]; rfl
        refine pV 37 44 (mqN 48 38) ?_ rfl rfl (any_of HT_.out (by kernel_rfl)) (fun _ _ _ h => h) (Or.inl ⟨by rfl, ?_⟩) ?_ ?_ ?_; rotate_left
        ·intro w'; go_simp; with_reducible rfl
        rotate_left
        ·simp only [Act.put, setA, set0, setS, i64_w]; rfl
        refine take_ (i := 38) (N := some 45) (v := ?_) (a' := ?_) (mqN 48 39) rfl rfl (take_ofW HT_.out HW_.out (by kernel_rfl)) (fun _ _ _ h => h) (Or.inl ⟨by rfl, ?_⟩) hHeld ?_ ?_; rotate_left
        ·rintro w' ⟨s0, s1, s2, s3, s4, s5, s6⟩
         go_simp; with_reducible rfl
        rotate_left
        ·simp only [Act.put, setA, set0, setS, i64_w]; rfl
        refine pV 39 46 (mqN 48 40) ?_ rfl rfl (any_of HT_.out (by kernel_rfl)) (fun _ _ _ h => h) (Or.inl ⟨by rfl, ?_⟩) ?_ ?_ ?_; rotate_left
        ·intro w'; go_simp; with_reducible rfl
        rotate_left
        ·simp only [Act.put, setA, set0, setS, i64_w]; rfl
        refine pV 40 47 (mqN 48 41) ?_ rfl rfl (any_of HT_.out (by kernel_rfl)) (fun _ _ _ h => h) (Or.inl ⟨by rfl, ?_⟩) ?_ ?_ ?_; rotate_left
        ·intro w'; go_simp; with_reducible rfl
        rotate_left
        ·simp only [Act.put, setA, set0, setS, i64_w]; rfl
        refine pV 41 48 (mqN 48 42) ?_ rfl rfl (any_of HT_.out (by kernel_rfl)) (fun _ _ _ h => h) (Or.inl ⟨by rfl, ?_⟩) ?_ ?_ ?_; rotate_left
        ·intro w'; go_simp; with_reducible rfl
        rotate_left
        ·simp only [Act.put, setA, set0, setS, i64_w]; rfl
        refine pV 42 49 (mqN 48 43) ?_ rfl rfl (any_of HT_.out (by kernel_rfl)) (fun _ _ _ h => h) (Or.inl ⟨by rfl, ?_⟩) ?_ ?_ ?_; rotate_left
        ·intro w'; go_simp; with_reducible rfl
        rotate_left
        ·simp only [Act.put, setA, set0, setS, i64_w]; rfl
        refine pV 43 50 (mqN 48 44) ?_ rfl rfl (any_of HT_.out (by kernel_rfl)) (fun _ _ _ h => h) (Or.inl ⟨by rfl, ?_⟩) ?_ ?_ ?_; rotate_left
        ·intro w'; go_simp; with_reducible rfl
        rotate_left
        ·simp only [Act.put, setA, set0, setS, i64_w]; rfl
        refine take_ (i := 44) (N := some 51) (v := ?_) (a' := ?_) (mqN 48 45) rfl rfl (take_ofW HT_.out HW_.out (by kernel_rfl)) (fun _ _ _ h => h) (Or.inl ⟨by rfl, ?_⟩) hHeld ?_ ?_; rotate_left
        ·rintro w' ⟨s0, s1, s2, s3, s4, s5, s6⟩
         go_simp; with_reducible rfl
        rotate_left
        ·simp only [Act.put, setA, set0, setS, i64_w]; rfl
        refine pV 45 52 (mqN 48 46) ?_ rfl rfl (any_of HT_.out (by kernel_rfl)) (fun _ _ _ h => h) (Or.inl ⟨by rfl, ?_⟩) ?_ ?_ ?_; rotate_left
        ·intro w'; go_simp; with_reducible rfl
        rotate_left
        ·simp only [Act.put, setA, set0, setS, i64_w]; rfl
        refine pV 46 53 (mqN 48 47) ?_ rfl rfl (any_of HT_.out (by kernel_rfl)) (fun _ _ _ h => h) (Or.inl ⟨by rfl, ?_⟩) ?_ ?_ ?_; rotate_left
        ·intro w'; go_simp; with_reducible rfl
        rotate_left
        ·simp only [Act.put, setA, set0, setS, i64_w]; rfl
        refine pV 47 54 (mqN 48 48) ?_ rfl rfl (any_of HT_.out (by kernel_rfl)) (fun _ _ _ h => h) (Or.inl ⟨by rfl, ?_⟩) ?_ ?_ ?_; rotate_left
        ·intro w'; go_simp; with_reducible rfl
        rotate_left
        ·simp only [Act.put, setA, set0, setS, i64_w]; rfl
        refine done_ (done_of HT_.out (by kernel_rfl)) ?_; try go_wp2
        go_meet
        case rel => exact ⟨_, (decide ((l0_6.length : Int) > 30)), (by first | rfl | (simp; done) | (simp [*]; done)), H', ⟨by first | omega | exact Nat.le_refl _⟩, ⟨by (with_reducible repeat (first | refine blk_drewN ?_ _ | refine blk_drew ?_ | refine blk_alloc ?_ _)); exact BK193.out⟩, ⟨by repeat (first | (with_reducible first | exact HB.out | apply below_alloc | apply pw_below_drewN | apply below_drew1 | refine below_set ?_ GE193.out) | exact HB.out | (with_reducible exact Below.refl _ _))⟩⟩
     ·rw [if_neg c11] at H; have c11b0 : (a0_3.toList == t197.toList) = false := beq_eq_false_iff_ne.mpr c11; have c11b1 : (a0_3.toList != t197.toList) = true := bne_iff_ne.mpr c11; have H' := Aside0.mk H; clear H; try go_wp2
      replace BK193 := Aside0.mk (blk_drew BK193.out); replace HB := Aside0.mk (below_drew1 HB.out); refine start_ (n := 48) (S := fun w' => w'.cell? ⟨gb193, 0, none⟩ = some (.string a0_0) ∧ w'.cell? ⟨gb193, 1, none⟩ = some (.slice A0_1 l0_1.length c0_1) ∧ w'.cell? ⟨gb193, 2, none⟩ = some (.slice A0_2 l0_2.length c0_2) ∧ w'.cell? ⟨gb193, 3, none⟩ = some (.string a0_3) ∧ w'.cell? ⟨gb193, 4, none⟩ = some (.bool a0_4) ∧ w'.cell? ⟨gb193, 5, none⟩ = some (.slice A0_5 l0_5.length c0_5) ∧ w'.cell? ⟨gb193, 6, none⟩ = some (.slice A0_6 l0_6.length c0_6)) (ds := []) (mqN 48 0) (by kernel_rfl) rfl rfl ⟨(blk_cell BK193.out 0).trans rfl, (blk_cell BK193.out 1).trans rfl, (blk_cell BK193.out 2).trans rfl, (blk_cell BK193.out 3).trans rfl, (blk_cell BK193.out 4).trans rfl, (blk_cell BK193.out 5).trans rfl, (blk_cell BK193.out 6).trans rfl⟩ (fun hHeld => ?_); refine with_tabW impl_GoodSession.tab1 impl_GoodSession.bits1 (fun HT_ HW_ => ?_); generalize w3.drew = w21 at BK193 HB hHeld ⊢; refine pV 0 7 (mqN 48 1) ?_ rfl rfl (any_of HT_.out (by kernel_rfl)) (fun _ _ _ h => h) (Or.inl ⟨by rfl, ?_⟩) ?_ ?_ ?_; rotate_left
      ·intro w'; go_simp; with_reducible rfl
      rotate_left
      ·simp only [Act.put, setA, set0, setS, i64_w]; rfl
      refine take_ (i := 1) (N := some 8) (v := ?_) (a' := ?_) (mqN 48 2) rfl rfl (take_ofW HT_.out HW_.out (by kernel_rfl)) (fun _ _ _ h => h) (Or.inl ⟨by rfl, ?_⟩) hHeld ?_ ?_; rotate_left
      ·rintro w' ⟨s0, s1, s2, s3, s4, s5, s6⟩
       go_simp; with_reducible rfl
      rotate_left
      ·simp only [Act.put, setA, set0, setS, i64_w]; rfl
      refine one_ (i := 2) (N := some 9) (mqN 48 3) rfl rfl (one_of HT_.out (by kernel_rfl)) (by decide) (fun K hK => ?_); refine goes_ Try.func79 (by kernel_rfl) rfl #[.string a0_0] (by rfl) rfl rfl (by (try simp only [List.map_toArray, List.map_cons, List.map_nil]); first | done | rfl | (simp only [List.length_drop, List.length_take]; rfl)) ?_; with_reducible refine (impl_isBlock.calls a0_0 true _ A4.out).mono ?_
      rintro e w' ⟨rfl, ⟨nd, rfl⟩⟩
      refine ⟨_, rfl, ?_⟩; refine hK.out _ _ ⟨(blk_cell BK193.out 0).trans rfl, (blk_cell BK193.out 1).trans rfl, (blk_cell BK193.out 2).trans rfl, (blk_cell BK193.out 3).trans rfl, (blk_cell BK193.out 4).trans rfl, (blk_cell BK193.out 5).trans rfl, (blk_cell BK193.out 6).trans rfl⟩ (fun hHeld => ?_); clear hK K; refine norm_ (a' := ?_) ?_ ?_; rotate_left
      ·show Act.put _ (some 9) _ = _; simp only [Act.put, setA, set0, setS, i64_w]; rfl
      refine pV 3 10 (mqN 48 4) ?_ rfl rfl (any_of HT_.out (by kernel_rfl)) (fun _ _ _ h => h) (Or.inl ⟨by rfl, ?_⟩) ?_ ?_ ?_; rotate_left
      ·intro w'; go_simp; with_reducible rfl
      rotate_left
      ·simp only [Act.put, setA, set0, setS, i64_w]; rfl
      refine pV 4 11 (mqN 48 5) ?_ rfl rfl (any_of HT_.out (by kernel_rfl)) (fun _ _ _ h => h) (Or.inl ⟨by rfl, ?_⟩) ?_ ?_ ?_; rotate_left
      ·intro w'; go_simp; with_reducible rfl
      rotate_left
      ·simp only [Act.put, setA, set0, setS, i64_w]; rfl
      refine pV 5 12 (mqN 48 6) ?_ rfl rfl (any_of HT_.out (by kernel_rfl)) (fun _ _ _ h => h) (Or.inl ⟨by rfl, ?_⟩) ?_ ?_ ?_; rotate_left
      ·intro w'; go_simp; with_reducible rfl
      rotate_left
      ·simp only [Act.put, setA, set0, setS, i64_w]; rfl
      refine pV 8 15 #[tt,tt,tt,tt,tt,tt,ff,ff,tt,ff,ff,ff,ff,ff,ff,ff,ff,ff,ff,ff,ff,ff,ff,ff,ff,ff,ff,ff,ff,ff,ff,ff,ff,ff,ff,ff,ff,ff,ff,ff,ff,ff,ff,ff,ff,ff,ff,ff] ?_ rfl rfl (any_of HT_.out (by kernel_rfl)) (fun _ _ _ h => h) (Or.inl ⟨by rfl, ?_⟩) ?_ ?_ ?_; rotate_left
      ·intro w'; go_simp; with_reducible rfl
      rotate_left
      ·simp only [Act.put, setA, set0, setS, i64_w]; rfl
      refine take_ (i := 6) (N := some 13) (v := ?_) (a' := ?_) #[tt,tt,tt,tt,tt,tt,tt,ff,tt,ff,ff,ff,ff,ff,ff,ff,ff,ff,ff,ff,ff,ff,ff,ff,ff,ff,ff,ff,ff,ff,ff,ff,ff,ff,ff,ff,ff,ff,ff,ff,ff,ff,ff,ff,ff,ff,ff,ff] rfl rfl (take_ofW HT_.out HW_.out (by kernel_rfl)) (fun _ _ _ h => h) (Or.inl ⟨by rfl, ?_⟩) hHeld ?_ ?_; rotate_left
      ·rintro w' ⟨s0, s1, s2, s3, s4, s5, s6⟩
       go_simp; with_reducible rfl
      rotate_left
      ·simp only [Act.put, setA, set0, setS, i64_w]; rfl
      refine pV 7 14 (mqN 48 9) ?_ rfl rfl (any_of HT_.out (by kernel_rfl)) (fun _ _ _ h => h) (Or.inl ⟨by rfl, ?_⟩) ?_ ?_ ?_; rotate_left
      ·intro w'; go_simp; with_reducible rfl
      rotate_left
      ·simp only [Act.put, setA, set0, setS, i64_w]; rfl
      refine take_ (i := 9) (N := some 16) (v := ?_) (a' := ?_) (mqN 48 10) rfl rfl (take_ofW HT_.out HW_.out (by kernel_rfl)) (fun _ _ _ h => h) (Or.inl ⟨by rfl, ?_⟩) hHeld ?_ ?_; rotate_left
      ·rintro w' ⟨s0, s1, s2, s3, s4, s5, s6⟩
       go_simp; with_reducible rfl
      rotate_left
      ·simp only [Act.put, setA, set0, setS, i64_w]; rfl
      refine one_ (i := 10) (N := some 17) (mqN 48 11) rfl rfl (one_of HT_.out (by kernel_rfl)) (by decide) (fun K hK => ?_); refine goes_ Try.func80 (by kernel_rfl) rfl #[.string a0_0] (by rfl) rfl rfl (by (try simp only [List.map_toArray, List.map_cons, List.map_nil]); first | done | rfl | (simp only [List.length_drop, List.length_take]; rfl)) ?_; with_reducible refine (impl_many.calls a0_0 t195 _ A6.out).mono ?_
      rintro e w' ⟨rfl, ⟨nd, rfl⟩⟩
      refine ⟨_, rfl, ?_⟩; refine hK.out _ _ ⟨(blk_cell BK193.out 0).trans rfl, (blk_cell BK193.out 1).trans rfl, (blk_cell BK193.out 2).trans rfl, (blk_cell BK193.out 3).trans rfl, (blk_cell BK193.out 4).trans rfl, (blk_cell BK193.out 5).trans rfl, (blk_cell BK193.out 6).trans rfl⟩ (fun hHeld => ?_); clear hK K; refine norm_ (a' := ?_) ?_ ?_; rotate_left
      ·show Act.put _ (some 17) _ = _; simp only [Act.put, setA, set0, setS, i64_w]; rfl
      refine pV 11 18 (mqN 48 12) ?_ rfl rfl (any_of HT_.out (by kernel_rfl)) (fun _ _ _ h => h) (Or.inl ⟨by rfl, ?_⟩) ?_ ?_ ?_; rotate_left
      ·intro w'; go_simp; with_reducible rfl
      rotate_left
      ·simp only [Act.put, setA, set0, setS, i64_w]; rfl
      refine pV 12 19 (mqN 48 13) ?_ rfl rfl (any_of HT_.out (by kernel_rfl)) (fun _ _ _ h => h) (Or.inl ⟨by rfl, ?_⟩) ?_ ?_ ?_; rotate_left
      ·intro w'; go_simp; with_reducible rfl
      rotate_left
      ·simp only [Act.put, setA, set0, setS, i64_w]; rfl
      refine pV 13 20 (mqN 48 14) ?_ rfl rfl (any_of HT_.out (by kernel_rfl)) (fun _ _ _ h => h) (Or.inl ⟨by rfl, ?_⟩) ?_ ?_ ?_; rotate_left
      ·intro w'; go_simp; with_reducible rfl
      rotate_left
      ·simp only [Act.put, setA, set0, setS, i64_w]; rfl
      refine pV 14 21 (mqN 48 15) ?_ rfl rfl (any_of HT_.out (by kernel_rfl)) (fun _ _ _ h => h) (Or.inl ⟨by rfl, ?_⟩) ?_ ?_ ?_; rotate_left
      ·intro w'; go_simp; with_reducible rfl
      rotate_left
      ·simp only [Act.put, setA, set0, setS, i64_w]; rfl
      refine pV 16 23 #[tt,tt,tt,tt,tt,tt,tt,tt,tt,tt,tt,tt,tt,tt,tt,ff,tt,ff,ff,ff,ff,ff,ff,ff,ff,ff,ff,ff,ff,ff,ff,ff,ff,ff,ff,ff,ff,ff,ff,ff,ff,ff,ff,ff,ff,ff,ff,ff] ?_ rfl rfl (any_of HT_.out (by kernel_rfl)) (fun _ _ _ h => h) (Or.inl ⟨by rfl, ?_⟩) ?_ ?_ ?_; rotate_left
      ·intro w'; go_simp; with_reducible rfl
      rotate_left
      ·simp only [Act.put, setA, set0, setS, i64_w]; rfl
      refine take_ (i := 15) (N := some 22) (v := ?_) (a' := ?_) (mqN 48 17) rfl rfl (take_ofW HT_.out HW_.out (by kernel_rfl)) (fun _ _ _ h => h) (Or.inl ⟨by rfl, ?_⟩) hHeld ?_ ?_; rotate_left
      ·rintro w' ⟨s0, s1, s2, s3, s4, s5, s6⟩
       go_simp; with_reducible rfl
      rotate_left
      ·simp only [Act.put, setA, set0, setS, i64_w]; rfl
      refine take_ (i := 17) (N := some 24) (v := ?_) (a' := ?_) (mqN 48 18) rfl rfl (take_ofW HT_.out HW_.out (by kernel_rfl)) (fun _ _ _ h => h) (Or.inl ⟨by rfl, ?_⟩) hHeld ?_ ?_; rotate_left
      ·rintro w' ⟨s0, s1, s2, s3, s4, s5, s6⟩
       go_simp; with_reducible rfl
      rotate_left
      ·simp only [Act.put, setA, set0, setS, i64_w]; rfl
      refine one_ (i := 18) (N := some 25) (mqN 48 19) rfl rfl (one_of HT_.out (by kernel_rfl)) (by decide) (fun K hK => ?_); refine goes_ Try.func81 (by kernel_rfl) rfl #[.slice A0_1 l0_1.length c0_1, .slice A0_2 l0_2.length c0_2] (by rfl) rfl rfl (by (try simp only [List.map_toArray, List.map_cons, List.map_nil]); first | done | rfl | (simp only [List.length_drop, List.length_take]; rfl)) ?_; with_reducible refine (impl_below.calls k _ _ l0_1 _ _ l0_2 true _ ?side1 ?side2 ?side3 ?side4 A8.out).mono ?_
      (case side1 => repeat (first | exact (Kd.C_below HR0_1.out (by repeat (first | (with_reducible first | exact HB.out | apply below_alloc | apply pw_below_drewN | apply below_drew1 | refine below_set ?_ GE193.out) | exact HB.out | (with_reducible exact Below.refl _ _)))) | with_reducible first | refine Kd.C_alloc ?_ _ | refine Kd.C_drewN ?_ _ | refine Kd.C_drew ?_))
      (case side2 => exact HC0_1.out)
      (case side3 => repeat (first | exact (Kd.C_below HR0_2.out (by repeat (first | (with_reducible first | exact HB.out | apply below_alloc | apply pw_below_drewN | apply below_drew1 | refine below_set ?_ GE193.out) | exact HB.out | (with_reducible exact Below.refl _ _)))) | with_reducible first | refine Kd.C_alloc ?_ _ | refine Kd.C_drewN ?_ _ | refine Kd.C_drew ?_))
      (case side4 => exact HC0_2.out)
      rintro e w' ⟨rfl, ⟨nd, rfl⟩⟩
      refine ⟨_, rfl, ?_⟩; refine hK.out _ _ ⟨(blk_cell BK193.out 0).trans rfl, (blk_cell BK193.out 1).trans rfl, (blk_cell BK193.out 2).trans rfl, (blk_cell BK193.out 3).trans rfl, (blk_cell BK193.out 4).trans rfl, (blk_cell BK193.out 5).trans rfl, (blk_cell BK193.out 6).trans rfl⟩ (fun hHeld => ?_); clear hK K; refine norm_ (a' := ?_) ?_ ?_; rotate_left
      ·show Act.put _ (some 25) _ = _; simp only [Act.put, setA, set0, setS, i64_w]; rfl
      refine pV 19 26 (mqN 48 20) ?_ rfl rfl (any_of HT_.out (by kernel_rfl)) (fun _ _ _ h => h) (Or.inl ⟨by rfl, ?_⟩) ?_ ?_ ?_; rotate_left
      ·intro w'; go_simp; with_reducible rfl
      rotate_left
      ·simp only [Act.put, setA, set0, setS, i64_w]; rfl
      refine pV 20 27 (mqN 48 21) ?_ rfl rfl (any_of HT_.out (by kernel_rfl)) (fun _ _ _ h => h) (Or.inl ⟨by rfl, ?_⟩) ?_ ?_ ?_; rotate_left
      ·intro w'; go_simp; with_reducible rfl
      rotate_left
      ·simp only [Act.put, setA, set0, setS, i64_w]; rfl
      refine pV 21 28 (mqN 48 22) ?_ rfl rfl (any_of HT_.out (by kernel_rfl)) (fun _ _ _ h => h) (Or.inl ⟨by rfl, ?_⟩) ?_ ?_ ?_; rotate_left
      ·intro w'; go_simp; with_reducible rfl
      rotate_left
      ·simp only [Act.put, setA, set0, setS, i64_w]; rfl
      refine pV 22 29 (mqN 48 23) ?_ rfl rfl (any_of HT_.out (by kernel_rfl)) (fun _ _ _ h => h) (Or.inl ⟨by rfl, ?_⟩) ?_ ?_ ?_; rotate_left
      ·intro w'; go_simp; with_reducible rfl
      rotate_left
      ·simp only [Act.put, setA, set0, setS, i64_w]; rfl
      refine take_ (i := 23) (N := some 30) (v := ?_) (a' := ?_) (mqN 48 24) rfl rfl (take_ofW HT_.out HW_.out (by kernel_rfl)) (fun _ _ _ h => h) (Or.inl ⟨by rfl, ?_⟩) hHeld ?_ ?_; rotate_left
      ·rintro w' ⟨s0, s1, s2, s3, s4, s5, s6⟩
       go_simp; with_reducible rfl
      rotate_left
      ·simp only [Act.put, setA, set0, setS, i64_w]; rfl
      refine take_ (i := 24) (N := some 31) (v := ?_) (a' := ?_) (mqN 48 25) rfl rfl (take_ofW HT_.out HW_.out (by kernel_rfl)) (fun _ _ _ h => h) (Or.inl ⟨by rfl, ?_⟩) hHeld ?_ ?_; rotate_left
      ·rintro w' ⟨s0, s1, s2, s3, s4, s5, s6⟩
       go_simp; with_reducible rfl
      rotate_left
      ·simp only [Act.put, setA, set0, setS, i64_w]; rfl
      refine one_ (i := 25) (N := some 32) (mqN 48 26) rfl rfl (one_of HT_.out (by kernel_rfl)) (by decide) (fun K hK => ?_); refine goes_ Try.func82 (by kernel_rfl) rfl #[.agg #[.string a0_0, .slice A0_1 l0_1.length c0_1, .slice A0_2 l0_2.length c0_2, .string a0_3, .bool a0_4, .slice A0_5 l0_5.length c0_5, .slice A0_6 l0_6.length c0_6]] (by rfl) rfl rfl (by (try simp only [List.map_toArray, List.map_cons, List.map_nil]); first | done | rfl | (simp only [List.length_drop, List.length_take]; rfl)) ?_; with_reducible refine (impl_Session_bytes.calls a0_0 _ _ l0_1 _ _ l0_2 a0_3 a0_4 _ _ l0_5 _ _ l0_6 t197 _ ?side1 ?side2 ?side3 ?side4 ?side5 ?side6 ?side7 ?side8 A10.out).mono ?_
      (case side1 => repeat (first | exact (Kd.C_below HR0_1.out (by repeat (first | (with_reducible first | exact HB.out | apply below_alloc | apply pw_below_drewN | apply below_drew1 | refine below_set ?_ GE193.out) | exact HB.out | (with_reducible exact Below.refl _ _)))) | with_reducible first | refine Kd.C_alloc ?_ _ | refine Kd.C_drewN ?_ _ | refine Kd.C_drew ?_))
      (case side2 => exact HC0_1.out)
      (case side3 => repeat (first | exact (Kd.C_below HR0_2.out (by repeat (first | (with_reducible first | exact HB.out | apply below_alloc | apply pw_below_drewN | apply below_drew1 | refine below_set ?_ GE193.out) | exact HB.out | (with_reducible exact Below.refl _ _)))) | with_reducible first | refine Kd.C_alloc ?_ _ | refine Kd.C_drewN ?_ _ | refine Kd.C_drew ?_))
      (case side4 => exact HC0_2.out)
      (case side5 => repeat (first | exact (Kd.C_below HR0_5.out (by repeat (first | (with_reducible first | exact HB.out | apply below_alloc | apply pw_below_drewN | apply below_drew1 | refine below_set ?_ GE193.out) | exact HB.out | (with_reducible exact Below.refl _ _)))) | with_reducible first | refine Kd.C_alloc ?_ _ | refine Kd.C_drewN ?_ _ | refine Kd.C_drew ?_))
      (case side6 => exact HC0_5.out)
      (case side7 => repeat (first | exact (Kd.C_below HR0_6.out (by repeat (first | (with_reducible first | exact HB.out | apply below_alloc | apply pw_below_drewN | apply below_drew1 | refine below_set ?_ GE193.out) | exact HB.out | (with_reducible exact Below.refl _ _)))) | with_reducible first | refine Kd.C_alloc ?_ _ | refine Kd.C_drewN ?_ _ | refine Kd.C_drew ?_))
      (case side8 => exact HC0_6.out)
      rintro e w22 ⟨rfl, hb⟩
      refine ⟨_, rfl, ?_⟩; replace BK193 := ba_ BK193 hb; replace HB := hb_ HB hb; (try clear hb); (try clear hb2); (try clear hk); (try clear hi); refine hK.out _ _ ⟨(blk_cell BK193.out 0).trans rfl, (blk_cell BK193.out 1).trans rfl, (blk_cell BK193.out 2).trans rfl, (blk_cell BK193.out 3).trans rfl, (blk_cell BK193.out 4).trans rfl, (blk_cell BK193.out 5).trans rfl, (blk_cell BK193.out 6).trans rfl⟩ (fun hHeld => ?_); clear hK K; refine norm_ (a' := ?_) ?_ ?_; rotate_left
      ·show Act.put _ (some 32) _ = _; simp only [Act.put, setA, set0, setS, i64_w]; rfl
      refine pV 26 33 (mqN 48 27) ?_ rfl rfl (any_of HT_.out (by kernel_rfl)) (fun _ _ _ h => h) (Or.inl ⟨by rfl, ?_⟩) ?_ ?_ ?_; rotate_left
      ·intro w'; go_simp; with_reducible rfl
      rotate_left
      ·simp only [Act.put, setA, set0, setS, i64_w]; rfl
      refine pV 27 34 (mqN 48 28) ?_ rfl rfl (any_of HT_.out (by kernel_rfl)) (fun _ _ _ h => h) (Or.inl ⟨by rfl, ?_⟩) ?_ ?_ ?_; rotate_left
      ·intro w'; go_simp; with_reducible rfl
      rotate_left
      ·simp only [Act.put, setA, set0, setS, i64_w]; rfl
      refine pV 28 35 (mqN 48 29) ?_ rfl rfl (any_of HT_.out (by kernel_rfl)) (fun _ _ _ h => h) (Or.inl ⟨by rfl, ?_⟩) ?_ ?_ ?_; rotate_left
      ·intro w'; go_simp; with_reducible rfl
      rotate_left
      ·simp only [Act.put, setA, set0, setS, i64_w]; rfl
      refine pU 29 36 (mqN 48 30) rfl rfl (any_of HT_.out (by kernel_rfl)) (fun _ _ _ h => h) (Or.inr ⟨by rfl, rfl⟩) ?_ ?_ ?_; rotate_left
      ·simp only [Act.put, setA, set0, setS, i64_w]; rfl
      refine pU 30 37 (mqN 48 31) rfl rfl (any_of HT_.out (by kernel_rfl)) (fun _ _ _ h => h) (Or.inr ⟨by rfl, rfl⟩) ?_ ?_ ?_; rotate_left
      ·simp only [Act.put, setA, set0, setS, i64_w]; rfl
      refine pU 31 38 (mqN 48 32) rfl rfl (any_of HT_.out (by kernel_rfl)) (fun _ _ _ h => h) (Or.inr ⟨by rfl, rfl⟩) ?_ ?_ ?_; rotate_left
      ·simp only [Act.put, setA, set0, setS, i64_w]; rfl
      refine pU 32 39 (mqN 48 33) rfl rfl (any_of HT_.out (by kernel_rfl)) (fun _ _ _ h => h) (Or.inr ⟨by rfl, rfl⟩) ?_ ?_ ?_; rotate_left
      ·simp only [Act.put, setA, set0, setS, i64_w]; rfl
      refine pU 33 40 (mqN 48 34) rfl rfl (any_of HT_.out (by kernel_rfl)) (fun _ _ _ h => h) (Or.inr ⟨by rfl, rfl⟩) ?_ ?_ ?_; rotate_left
      ·simp only [Act.put, setA, set0, setS, i64_w]; rfl
      refine pU 34 41 (mqN 48 35) rfl rfl (any_of HT_.out (by kernel_rfl)) (fun _ _ _ h => h) (Or.inr ⟨by rfl, rfl⟩) ?_ ?_ ?_; rotate_left
      ·simp only [Act.put, setA, set0, setS, i64_w]; rfl
      refine pV 35 42 (mqN 48 36) ?_ rfl rfl (any_of HT_.out (by kernel_rfl)) (fun _ _ _ h => h) (Or.inl ⟨by rfl, ?_⟩) ?_ ?_ ?_; rotate_left
      ·intro w'; go_simp; with_reducible rfl
      rotate_left
      ·simp only [Act.put, setA, set0, setS, i64_w]; rfl
      refine pV 36 43 (mqN 48 37) ?_ rfl rfl (any_of HT_.out (by kernel_rfl)) (fun _ _ _ h => h) (Or.inl ⟨by rfl, ?_⟩) ?_ ?_ ?_; rotate_left
      ·intro w'; go_simp; with_reducible rfl
      rotate_left
      ·simp only [Act.put, setA, set0, setS, i64_w]; rfl
      refine pU 37 44 (mqN 48 38) rfl rfl (any_of HT_.out (by kernel_rfl)) (fun _ _ _ h => h) (Or.inr ⟨by rfl, rfl⟩) ?_ ?_ ?_; rotate_left
      ·simp only [Act.put, setA, set0, setS, i64_w]; rfl
      refine pU 38 45 (mqN 48 39) rfl rfl (any_of HT_.out (by kernel_rfl)) (fun _ _ _ h => h) (Or.inr ⟨by rfl, rfl⟩) ?_ ?_ ?_; rotate_left
      ·simp only [Act.put, setA, set0, setS, i64_w]; rfl
      refine pU 39 46 (mqN 48 40) rfl rfl (any_of HT_.out (by kernel_rfl)) (fun _ _ _ h => h) (Or.inr ⟨by rfl, rfl⟩) ?_ ?_ ?_; rotate_left
      ·simp only [Act.put, setA, set0, setS, i64_w]; rfl
      refine pU 40 47 (mqN 48 41) rfl rfl (any_of HT_.out (by kernel_rfl)) (fun _ _ _ h => h) (Or.inr ⟨by rfl, rfl⟩) ?_ ?_ ?_; rotate_left
      ·simp only [Act.put, setA, set0, setS, i64_w]; rfl
      refine pV 41 48 (mqN 48 42) ?_ rfl rfl (any_of HT_.out (by kernel_rfl)) (fun _ _ _ h => h) (Or.inl ⟨by rfl, ?_⟩) ?_ ?_ ?_; rotate_left
      ·intro w'; go_simp; with_reducible rfl
      rotate_left
      ·simp only [Act.put, setA, set0, setS, i64_w]; rfl
      refine pV 42 49 (mqN 48 43) ?_ rfl rfl (any_of HT_.out (by kernel_rfl)) (fun _ _ _ h => h) (Or.inl ⟨by rfl, ?_⟩) ?_ ?_ ?_; rotate_left
      ·intro w'; go_simp; with_reducible rfl
      rotate_left
      ·simp only [Act.put, setA, set0, setS, i64_w]; rfl
      refine pU 43 50 (mqN 48 44) rfl rfl (any_of HT_.out (by kernel_rfl)) (fun _ _ _ h => h) (Or.inr ⟨by rfl, rfl⟩) ?_ ?_ ?_; rotate_left
      ·simp only [Act.put, setA, set0, setS, i64_w]; rfl
      refine pU 44 51 (mqN 48 45) rfl rfl (any_of HT_.out (by kernel_rfl)) (fun _ _ _ h => h) (Or.inr ⟨by rfl, rfl⟩) ?_ ?_ ?_; rotate_left
      ·simp only [Act.put, setA, set0, setS, i64_w]; rfl
      refine pU 45 52 (mqN 48 46) rfl rfl (any_of HT_.out (by kernel_rfl)) (fun _ _ _ h => h) (Or.inr ⟨by rfl, rfl⟩) ?_ ?_ ?_; rotate_left
      ·simp only [Act.put, setA, set0, setS, i64_w]; rfl
      refine pU 46 53 (mqN 48 47) rfl rfl (any_of HT_.out (by kernel_rfl)) (fun _ _ _ h => h) (Or.inr ⟨by rfl, rfl⟩) ?_ ?_ ?_; rotate_left
      ·simp only [Act.put, setA, set0, setS, i64_w]; rfl
      refine pV 47 54 (mqN 48 48) ?_ rfl rfl (any_of HT_.out (by kernel_rfl)) (fun _ _ _ h => h) (Or.inl ⟨by rfl, ?_⟩) ?_ ?_ ?_; rotate_left
      ·intro w'; go_simp; with_reducible rfl
      rotate_left
      ·simp only [Act.put, setA, set0, setS, i64_w]; rfl
      refine done_ (done_of HT_.out (by kernel_rfl)) ?_; try go_wp2
      go_meet
      case rel => exact ⟨_, (true), (by first | rfl | (simp; done) | (simp [*]; done)), H', ⟨by first | omega | exact Nat.le_refl _⟩, ⟨by (with_reducible repeat (first | refine blk_drewN ?_ _ | refine blk_drew ?_ | refine blk_alloc ?_ _)); exact BK193.out⟩, ⟨by repeat (first | (with_reducible first | exact HB.out | apply below_alloc | apply pw_below_drewN | apply below_drew1 | refine below_set ?_ GE193.out) | exact HB.out | (with_reducible exact Below.refl _ _))⟩⟩
    ·replace c9 := Bool.eq_false_iff.mpr c9; subst c9; rw [if_neg (show ¬ (false = true) by decide)] at H; have H' := Aside0.mk H; clear H; try go_wp2
     replace BK193 := Aside0.mk (blk_drew BK193.out); replace HB := Aside0.mk (below_drew1 HB.out); refine start_ (n := 48) (S := fun w' => w'.cell? ⟨gb193, 0, none⟩ = some (.string a0_0) ∧ w'.cell? ⟨gb193, 1, none⟩ = some (.slice A0_1 l0_1.length c0_1) ∧ w'.cell? ⟨gb193, 2, none⟩ = some (.slice A0_2 l0_2.length c0_2) ∧ w'.cell? ⟨gb193, 3, none⟩ = some (.string a0_3) ∧ w'.cell? ⟨gb193, 4, none⟩ = some (.bool a0_4) ∧ w'.cell? ⟨gb193, 5, none⟩ = some (.slice A0_5 l0_5.length c0_5) ∧ w'.cell? ⟨gb193, 6, none⟩ = some (.slice A0_6 l0_6.length c0_6)) (ds := []) (mqN 48 0) (by kernel_rfl) rfl rfl ⟨(blk_cell BK193.out 0).trans rfl, (blk_cell BK193.out 1).trans rfl, (blk_cell BK193.out 2).trans rfl, (blk_cell BK193.out 3).trans rfl, (blk_cell BK193.out 4).trans rfl, (blk_cell BK193.out 5).trans rfl, (blk_cell BK193.out 6).trans rfl⟩ (fun hHeld => ?_); refine with_tabW impl_GoodSession.tab1 impl_GoodSession.bits1 (fun HT_ HW_ => ?_); generalize w3.drew = w23 at BK193 HB hHeld ⊢; refine pV 0 7 (mqN 48 1) ?_ rfl rfl (any_of HT_.out (by kernel_rfl)) (fun _ _ _ h => h) (Or.inl ⟨by rfl, ?_⟩) ?_ ?_ ?_; rotate_left
     ·intro w'; go_simp; with_reducible rfl
     rotate_left
     ·simp only [Act.put, setA, set0, setS, i64_w]; rfl
     refine take_ (i := 1) (N := some 8) (v := ?_) (a' := ?_) (mqN 48 2) rfl rfl (take_ofW HT_.out HW_.out (by kernel_rfl)) (fun _ _ _ h => h) (Or.inl ⟨by rfl, ?_⟩) hHeld ?_ ?_; rotate_left
     ·rintro w' ⟨s0, s1, s2, s3, s4, s5, s6⟩
      go_simp; with_reducible rfl
     rotate_left
     ·simp only [Act.put, setA, set0, setS, i64_w]; rfl
     refine one_ (i := 2) (N := some 9) (mqN 48 3) rfl rfl (one_of HT_.out (by kernel_rfl)) (by decide) (fun K hK => ?_); refine goes_ Try.func79 (by kernel_rfl) rfl #[.string a0_0] (by rfl) rfl rfl (by (try simp only [List.map_toArray, List.map_cons, List.map_nil]); first | done | rfl | (simp only [List.length_drop, List.length_take]; rfl)) ?_; with_reducible refine (impl_isBlock.calls a0_0 true _ A4.out).mono ?_
     rintro e w' ⟨rfl, ⟨nd, rfl⟩⟩
     refine ⟨_, rfl, ?_⟩; refine hK.out _ _ ⟨(blk_cell BK193.out 0).trans rfl, (blk_cell BK193.out 1).trans rfl, (blk_cell BK193.out 2).trans rfl, (blk_cell BK193.out 3).trans rfl, (blk_cell BK193.out 4).trans rfl, (blk_cell BK193.out 5).trans rfl, (blk_cell BK193.out 6).trans rfl⟩ (fun hHeld => ?_); clear hK K; refine norm_ (a' := ?_) ?_ ?_; rotate_left
     ·show Act.put _ (some 9) _ = _; simp only [Act.put, setA, set0, setS, i64_w]; rfl
     refine pV 3 10 (mqN 48 4) ?_ rfl rfl (any_of HT_.out (by kernel_rfl)) (fun _ _ _ h => h) (Or.inl ⟨by rfl, ?_⟩) ?_ ?_ ?_; rotate_left
     ·intro w'; go_simp; with_reducible rfl
     rotate_left
     ·simp only [Act.put, setA, set0, setS, i64_w]; rfl
     refine pV 4 11 (mqN 48 5) ?_ rfl rfl (any_of HT_.out (by kernel_rfl)) (fun _ _ _ h => h) (Or.inl ⟨by rfl, ?_⟩) ?_ ?_ ?_; rotate_left
     ·intro w'; go_simp; with_reducible rfl
     rotate_left
     ·simp only [Act.put, setA, set0, setS, i64_w]; rfl
     refine pV 5 12 (mqN 48 6) ?_ rfl rfl (any_of HT_.out (by kernel_rfl)) (fun _ _ _ h => h) (Or.inl ⟨by rfl, ?_⟩) ?_ ?_ ?_; rotate_left
     ·intro w'; go_simp; with_reducible rfl
     rotate_left
     ·simp only [Act.put, setA, set0, setS, i64_w]; rfl
     refine pV 8 15 #[tt,tt,tt,tt,tt,tt,ff,ff,tt,ff,ff,ff,ff,ff,ff,ff,ff,ff,ff,ff,ff,ff,ff,ff,ff,ff,ff,ff,ff,ff,ff,ff,ff,ff,ff,ff,ff,ff,ff,ff,ff,ff,ff,ff,ff,ff,ff,ff] ?_ rfl rfl (any_of HT_.out (by kernel_rfl)) (fun _ _ _ h => h) (Or.inl ⟨by rfl, ?_⟩) ?_ ?_ ?_; rotate_left
     ·intro w'; go_simp; with_reducible rfl
     rotate_left
     ·simp only [Act.put, setA, set0, setS, i64_w]; rfl
     refine take_ (i := 6) (N := some 13) (v := ?_) (a' := ?_) #[tt,tt,tt,tt,tt,tt,tt,ff,tt,ff,ff,ff,ff,ff,ff,ff,ff,ff,ff,ff,ff,ff,ff,ff,ff,ff,ff,ff,ff,ff,ff,ff,ff,ff,ff,ff,ff,ff,ff,ff,ff,ff,ff,ff,ff,ff,ff,ff] rfl rfl (take_ofW HT_.out HW_.out (by kernel_rfl)) (fun _ _ _ h => h) (Or.inl ⟨by rfl, ?_⟩) hHeld ?_ ?_; rotate_left
     ·rintro w' ⟨s0, s1, s2, s3, s4, s5, s6⟩
      go_simp; with_reducible rfl
     rotate_left
     ·simp only [Act.put, setA, set0, setS, i64_w]; rfl
     refine pV 7 14 (mqN 48 9) ?_ rfl rfl (any_of HT_.out (by kernel_rfl)) (fun _ _ _ h => h) (Or.inl ⟨by rfl, ?_⟩) ?_ ?_ ?_; rotate_left
     ·intro w'; go_simp; with_reducible rfl
     rotate_left
     ·simp only [Act.put, setA, set0, setS, i64_w]; rfl
     refine take_ (i := 9) (N := some 16) (v := ?_) (a' := ?_) (mqN 48 10) rfl rfl (take_ofW HT_.out HW_.out (by kernel_rfl)) (fun _ _ _ h => h) (Or.inl ⟨by rfl, ?_⟩) hHeld ?_ ?_; rotate_left
     ·rintro w' ⟨s0, s1, s2, s3, s4, s5, s6⟩
      go_simp; with_reducible rfl
     rotate_left
     ·simp only [Act.put, setA, set0, setS, i64_w]; rfl
     refine one_ (i := 10) (N := some 17) (mqN 48 11) rfl rfl (one_of HT_.out (by kernel_rfl)) (by decide) (fun K hK => ?_); refine goes_ Try.func80 (by kernel_rfl) rfl #[.string a0_0] (by rfl) rfl rfl (by (try simp only [List.map_toArray, List.map_cons, List.map_nil]); first | done | rfl | (simp only [List.length_drop, List.length_take]; rfl)) ?_; with_reducible refine (impl_many.calls a0_0 t195 _ A6.out).mono ?_
     rintro e w' ⟨rfl, ⟨nd, rfl⟩⟩
     refine ⟨_, rfl, ?_⟩; refine hK.out _ _ ⟨(blk_cell BK193.out 0).trans rfl, (blk_cell BK193.out 1).trans rfl, (blk_cell BK193.out 2).trans rfl, (blk_cell BK193.out 3).trans rfl, (blk_cell BK193.out 4).trans rfl, (blk_cell BK193.out 5).trans rfl, (blk_cell BK193.out 6).trans rfl⟩ (fun hHeld => ?_); clear hK K; refine norm_ (a' := ?_) ?_ ?_; rotate_left
     ·show Act.put _ (some 17) _ = _; simp only [Act.put, setA, set0, setS, i64_w]; rfl
     refine pV 11 18 (mqN 48 12) ?_ rfl rfl (any_of HT_.out (by kernel_rfl)) (fun _ _ _ h => h) (Or.inl ⟨by rfl, ?_⟩) ?_ ?_ ?_; rotate_left
     ·intro w'; go_simp; with_reducible rfl
     rotate_left
     ·simp only [Act.put, setA, set0, setS, i64_w]; rfl
     refine pV 12 19 (mqN 48 13) ?_ rfl rfl (any_of HT_.out (by kernel_rfl)) (fun _ _ _ h => h) (Or.inl ⟨by rfl, ?_⟩) ?_ ?_ ?_; rotate_left
     ·intro w'; go_simp; with_reducible rfl
     rotate_left
     ·simp only [Act.put, setA, set0, setS, i64_w]; rfl
     refine pV 13 20 (mqN 48 14) ?_ rfl rfl (any_of HT_.out (by kernel_rfl)) (fun _ _ _ h => h) (Or.inl ⟨by rfl, ?_⟩) ?_ ?_ ?_; rotate_left
     ·intro w'; go_simp; with_reducible rfl
     rotate_left
     ·simp only [Act.put, setA, set0, setS, i64_w]; rfl
     refine pV 14 21 (mqN 48 15) ?_ rfl rfl (any_of HT_.out (by kernel_rfl)) (fun _ _ _ h => h) (Or.inl ⟨by rfl, ?_⟩) ?_ ?_ ?_; rotate_left
     ·intro w'; go_simp; with_reducible rfl
     rotate_left
     ·simp only [Act.put, setA, set0, setS, i64_w]; rfl
     refine pV 16 23 #[tt,tt,tt,tt,tt,tt,tt,tt,tt,tt,tt,tt,tt,tt,tt,ff,tt,ff,ff,ff,ff,ff,ff,ff,ff,ff,ff,ff,ff,ff,ff,ff,ff,ff,ff,ff,ff,ff,ff,ff,ff,ff,ff,ff,ff,ff,ff,ff] ?_ rfl rfl (any_of HT_.out (by kernel_rfl)) (fun _ _ _ h => h) (Or.inl ⟨by rfl, ?_⟩) ?_ ?_ ?_; rotate_left
     ·intro w'; go_simp; with_reducible rfl
     rotate_left
     ·simp only [Act.put, setA, set0, setS, i64_w]; rfl
     refine take_ (i := 15) (N := some 22) (v := ?_) (a' := ?_) (mqN 48 17) rfl rfl (take_ofW HT_.out HW_.out (by kernel_rfl)) (fun _ _ _ h => h) (Or.inl ⟨by rfl, ?_⟩) hHeld ?_ ?_; rotate_left
     ·rintro w' ⟨s0, s1, s2, s3, s4, s5, s6⟩
      go_simp; with_reducible rfl
     rotate_left
     ·simp only [Act.put, setA, set0, setS, i64_w]; rfl
     refine take_ (i := 17) (N := some 24) (v := ?_) (a' := ?_) (mqN 48 18) rfl rfl (take_ofW HT_.out HW_.out (by kernel_rfl)) (fun _ _ _ h => h) (Or.inl ⟨by rfl, ?_⟩) hHeld ?_ ?_; rotate_left
     ·rintro w' ⟨s0, s1, s2, s3, s4, s5, s6⟩
      go_simp; with_reducible rfl
     rotate_left
     ·simp only [Act.put, setA, set0, setS, i64_w]; rfl
     refine one_ (i := 18) (N := some 25) (mqN 48 19) rfl rfl (one_of HT_.out (by kernel_rfl)) (by decide) (fun K hK => ?_); refine goes_ Try.func81 (by kernel_rfl) rfl #[.slice A0_1 l0_1.length c0_1, .slice A0_2 l0_2.length c0_2] (by rfl) rfl rfl (by (try simp only [List.map_toArray, List.map_cons, List.map_nil]); first | done | rfl | (simp only [List.length_drop, List.length_take]; rfl)) ?_; with_reducible refine (impl_below.calls k _ _ l0_1 _ _ l0_2 false _ ?side1 ?side2 ?side3 ?side4 A8.out).mono ?_
     (case side1 => repeat (first | exact (Kd.C_below HR0_1.out (by repeat (first | (with_reducible first | exact HB.out | apply below_alloc | apply pw_below_drewN | apply below_drew1 | refine below_set ?_ GE193.out) | exact HB.out | (with_reducible exact Below.refl _ _)))) | with_reducible first | refine Kd.C_alloc ?_ _ | refine Kd.C_drewN ?_ _ | refine Kd.C_drew ?_))
     (case side2 => exact HC0_1.out)
     (case side3 => repeat (first | exact (Kd.C_below HR0_2.out (by repeat (first | (with_reducible first | exact HB.out | apply below_alloc | apply pw_below_drewN | apply below_drew1 | refine below_set ?_ GE193.out) | exact HB.out | (with_reducible exact Below.refl _ _)))) | with_reducible first | refine Kd.C_alloc ?_ _ | refine Kd.C_drewN ?_ _ | refine Kd.C_drew ?_))
     (case side4 => exact HC0_2.out)
     rintro e w' ⟨rfl, ⟨nd, rfl⟩⟩
     refine ⟨_, rfl, ?_⟩; refine hK.out _ _ ⟨(blk_cell BK193.out 0).trans rfl, (blk_cell BK193.out 1).trans rfl, (blk_cell BK193.out 2).trans rfl, (blk_cell BK193.out 3).trans rfl, (blk_cell BK193.out 4).trans rfl, (blk_cell BK193.out 5).trans rfl, (blk_cell BK193.out 6).trans rfl⟩ (fun hHeld => ?_); clear hK K; refine norm_ (a' := ?_) ?_ ?_; rotate_left
     ·show Act.put _ (some 25) _ = _; simp only [Act.put, setA, set0, setS, i64_w]; rfl
     refine pV 19 26 (mqN 48 20) ?_ rfl rfl (any_of HT_.out (by kernel_rfl)) (fun _ _ _ h => h) (Or.inl ⟨by rfl, ?_⟩) ?_ ?_ ?_; rotate_left
     ·intro w'; go_simp; with_reducible rfl
     rotate_left
     ·simp only [Act.put, setA, set0, setS, i64_w]; rfl
     refine pV 20 27 (mqN 48 21) ?_ rfl rfl (any_of HT_.out (by kernel_rfl)) (fun _ _ _ h => h) (Or.inl ⟨by rfl, ?_⟩) ?_ ?_ ?_; rotate_left
     ·intro w'; go_simp; with_reducible rfl
     rotate_left
     ·simp only [Act.put, setA, set0, setS, i64_w]; rfl
     refine pV 21 28 (mqN 48 22) ?_ rfl rfl (any_of HT_.out (by kernel_rfl)) (fun _ _ _ h => h) (Or.inl ⟨by rfl, ?_⟩) ?_ ?_ ?_; rotate_left
     ·intro w'; go_simp; with_reducible rfl
     rotate_left
     ·simp only [Act.put, setA, set0, setS, i64_w]; rfl
     refine pU 22 29 (mqN 48 23) rfl rfl (any_of HT_.out (by kernel_rfl)) (fun _ _ _ h => h) (Or.inr ⟨by rfl, rfl⟩) ?_ ?_ ?_; rotate_left
     ·simp only [Act.put, setA, set0, setS, i64_w]; rfl
     refine pU 23 30 (mqN 48 24) rfl rfl (any_of HT_.out (by kernel_rfl)) (fun _ _ _ h => h) (Or.inr ⟨by rfl, rfl⟩) ?_ ?_ ?_; rotate_left
     ·simp only [Act.put, setA, set0, setS, i64_w]; rfl
     refine pU 24 31 (mqN 48 25) rfl rfl (any_of HT_.out (by kernel_rfl)) (fun _ _ _ h => h) (Or.inr ⟨by rfl, rfl⟩) ?_ ?_ ?_; rotate_left
     ·simp only [Act.put, setA, set0, setS, i64_w]; rfl
     refine pU 25 32 (mqN 48 26) rfl rfl (any_of HT_.out (by kernel_rfl)) (fun _ _ _ h => h) (Or.inr ⟨by rfl, rfl⟩) ?_ ?_ ?_; rotate_left
     ·simp only [Act.put, setA, set0, setS, i64_w]; rfl
     refine pU 26 33 (mqN 48 27) rfl rfl (any_of HT_.out (by kernel_rfl)) (fun _ _ _ h => h) (Or.inr ⟨by rfl, rfl⟩) ?_ ?_ ?_; rotate_left
     ·simp only [Act.put, setA, set0, setS, i64_w]; rfl
     refine pV 27 34 (mqN 48 28) ?_ rfl rfl (any_of HT_.out (by kernel_rfl)) (fun _ _ _ h => h) (Or.inl ⟨by rfl, ?_⟩) ?_ ?_ ?_; rotate_left
     ·intro w'; go_simp; with_reducible rfl
     rotate_left
     ·simp only [Act.put, setA, set0, setS, i64_w]; rfl
     refine pV 28 35 (mqN 48 29) ?_ rfl rfl (any_of HT_.out (by kernel_rfl)) (fun _ _ _ h => h) (Or.inl ⟨by rfl, ?_⟩) ?_ ?_ ?_; rotate_left
     ·intro w'; go_simp; with_reducible rfl
     rotate_left
     ·simp only [Act.put, setA, set0, setS, i64_w]; rfl
     refine pU 29 36 (mqN 48 30) rfl rfl (any_of HT_.out (by kernel_rfl)) (fun _ _ _ h => h) (Or.inr ⟨by rfl, rfl⟩) ?_ ?_ ?_; rotate_left
     ·simp only [Act.put, setA, set0, setS, i64_w]; rfl
     refine pU 30 37 (mqN 48 31) rfl rfl (any_of HT_.out (by kernel_rfl)) (fun _ _ _ h => h) (Or.inr ⟨by rfl, rfl⟩) ?_ ?_ ?_; rotate_left
     ·simp only [Act.put, setA, set0, setS, i64_w]; rfl
     refine pU 31 38 (mqN 48 32) rfl rfl (any_of HT_.out (by kernel_rfl)) (fun _ _ _ h => h) (Or.inr ⟨by rfl, rfl⟩) ?_ ?_ ?_; rotate_left
     ·simp only [Act.put, setA, set0, setS, i64_w]; rfl
     refine pU 32 39 (mqN 48 33) rfl rfl (any_of HT_.out (by kernel_rfl)) (fun _ _ _ h => h) (Or.inr ⟨by rfl, rfl⟩) ?_ ?_ ?_; rotate_left
     ·simp only [Act.put, setA, set0, setS, i64_w]; rfl
     refine pU 33 40 (mqN 48 34) rfl rfl (any_of HT_.out (by kernel_rfl)) (fun _ _ _ h => h) (Or.inr ⟨by rfl, rfl⟩) ?_ ?_ ?_; rotate_left
     ·simp only [Act.put, setA, set0, setS, i64_w]; rfl
     refine pU 34 41 (mqN 48 35) rfl rfl (any_of HT_.out (by kernel_rfl)) (fun _ _ _ h => h) (Or.inr ⟨by rfl, rfl⟩) ?_ ?_ ?_; rotate_left
     ·simp only [Act.put, setA, set0, setS, i64_w]; rfl
     refine pV 35 42 (mqN 48 36) ?_ rfl rfl (any_of HT_.out (by kernel_rfl)) (fun _ _ _ h => h) (Or.inl ⟨by rfl, ?_⟩) ?_ ?_ ?_; rotate_left
     ·intro w'; go_simp; with_reducible rfl
     rotate_left
     ·simp only [Act.put, setA, set0, setS, i64_w]; rfl
     refine pV 36 43 (mqN 48 37) ?_ rfl rfl (any_of HT_.out (by kernel_rfl)) (fun _ _ _ h => h) (Or.inl ⟨by rfl, ?_⟩) ?_ ?_ ?_; rotate_left
     ·intro w'; go_simp; with_reducible rfl
     rotate_left
     ·simp only [Act.put, setA, set0, setS, i64_w]; rfl
     refine pU 37 44 (mqN 48 38) rfl rfl (any_of HT_.out (by kernel_rfl)) (fun _ _ _ h => h) (Or.inr ⟨by rfl, rfl⟩) ?_ ?_ ?_; rotate_left
     ·simp only [Act.put, setA, set0, setS, i64_w]; rfl
     refine pU 38 45 (mqN 48 39) rfl rfl (any_of HT_.out (by kernel_rfl)) (fun _ _ _ h => h) (Or.inr ⟨by rfl, rfl⟩) ?_ ?_ ?_; rotate_left
     ·simp only [Act.put, setA, set0, setS, i64_w]; rfl
     refine pU 39 46 (mqN 48 40) rfl rfl (any_of HT_.out (by kernel_rfl)) (fun _ _ _ h => h) (Or.inr ⟨by rfl, rfl⟩) ?_ ?_ ?_; rotate_left
     ·simp only [Act.put, setA, set0, setS, i64_w]; rfl
     refine pU 40 47 (mqN 48 41) rfl rfl (any_of HT_.out (by kernel_rfl)) (fun _ _ _ h => h) (Or.inr ⟨by rfl, rfl⟩) ?_ ?_ ?_; rotate_left
     ·simp only [Act.put, setA, set0, setS, i64_w]; rfl
     refine pV 41 48 (mqN 48 42) ?_ rfl rfl (any_of HT_.out (by kernel_rfl)) (fun _ _ _ h => h) (Or.inl ⟨by rfl, ?_⟩) ?_ ?_ ?_; rotate_left
     ·intro w'; go_simp; with_reducible rfl
     rotate_left
     ·simp only [Act.put, setA, set0, setS, i64_w]; rfl
     refine pV 42 49 (mqN 48 43) ?_ rfl rfl (any_of HT_.out (by kernel_rfl)) (fun _ _ _ h => h) (Or.inl ⟨by rfl, ?_⟩) ?_ ?_ ?_; rotate_left
     ·intro w'; go_simp; with_reducible rfl
     rotate_left
     ·simp only [Act.put, setA, set0, setS, i64_w]; rfl
     refine pU 43 50 (mqN 48 44) rfl rfl (any_of HT_.out (by kernel_rfl)) (fun _ _ _ h => h) (Or.inr ⟨by rfl, rfl⟩) ?_ ?_ ?_; rotate_left
     ·simp only [Act.put, setA, set0, setS, i64_w]; rfl
     refine pU 44 51 (mqN 48 45) rfl rfl (any_of HT_.out (by kernel_rfl)) (fun _ _ _ h => h) (Or.inr ⟨by rfl, rfl⟩) ?_ ?_ ?_; rotate_left
     ·simp only [Act.put, setA, set0, setS, i64_w]; rfl
     refine pU 45 52 (mqN 48 46) rfl rfl (any_of HT_.out (by kernel_rfl)) (fun _ _ _ h => h) (Or.inr ⟨by rfl, rfl⟩) ?_ ?_ ?_; rotate_left
     ·simp only [Act.put, setA, set0, setS, i64_w]; rfl
     refine pU 46 53 (mqN 48 47) rfl rfl (any_of HT_.out (by kernel_rfl)) (fun _ _ _ h => h) (Or.inr ⟨by rfl, rfl⟩) ?_ ?_ ?_; rotate_left
     ·simp only [Act.put, setA, set0, setS, i64_w]; rfl
     refine pV 47 54 (mqN 48 48) ?_ rfl rfl (any_of HT_.out (by kernel_rfl)) (fun _ _ _ h => h) (Or.inl ⟨by rfl, ?_⟩) ?_ ?_ ?_; rotate_left
     ·intro w'; go_simp; with_reducible rfl
     rotate_left
     ·simp only [Act.put, setA, set0, setS, i64_w]; rfl
     refine done_ (done_of HT_.out (by kernel_rfl)) ?_; try go_wp2
     go_meet
     case rel => exact ⟨_, (true), (by first | rfl | (simp; done) | (simp [*]; done)), H', ⟨by first | omega | exact Nat.le_refl _⟩, ⟨by (with_reducible repeat (first | refine blk_drewN ?_ _ | refine blk_drew ?_ | refine blk_alloc ?_ _)); exact BK193.out⟩, ⟨by repeat (first | (with_reducible first | exact HB.out | apply below_alloc | apply pw_below_drewN | apply below_drew1 | refine below_set ?_ GE193.out) | exact HB.out | (with_reducible exact Below.refl _ _))⟩⟩
   ·rw [if_neg c7] at H; have c7b0 : ((l0_2.length : Int) == t195) = false := beq_eq_false_iff_ne.mpr c7; have c7b1 : ((l0_2.length : Int) != t195) = true := bne_iff_ne.mpr c7; (first | rw [c7b0] | (simp only [i64_w, i32_w]; rw [c7b0]) | skip); have H' := Aside0.mk H; clear H; try go_wp2
    replace BK193 := Aside0.mk (blk_drew BK193.out); replace HB := Aside0.mk (below_drew1 HB.out); refine start_ (n := 48) (S := fun w' => w'.cell? ⟨gb193, 0, none⟩ = some (.string a0_0) ∧ w'.cell? ⟨gb193, 1, none⟩ = some (.slice A0_1 l0_1.length c0_1) ∧ w'.cell? ⟨gb193, 2, none⟩ = some (.slice A0_2 l0_2.length c0_2) ∧ w'.cell? ⟨gb193, 3, none⟩ = some (.string a0_3) ∧ w'.cell? ⟨gb193, 4, none⟩ = some (.bool a0_4) ∧ w'.cell? ⟨gb193, 5, none⟩ = some (.slice A0_5 l0_5.length c0_5) ∧ w'.cell? ⟨gb193, 6, none⟩ = some (.slice A0_6 l0_6.length c0_6)) (ds := []) (mqN 48 0) (by kernel_rfl) rfl rfl ⟨(blk_cell BK193.out 0).trans rfl, (blk_cell BK193.out 1).trans rfl, (blk_cell BK193.out 2).trans rfl, (blk_cell BK193.out 3).trans rfl, (blk_cell BK193.out 4).trans rfl, (blk_cell BK193.out 5).trans rfl, (blk_cell BK193.out 6).trans rfl⟩ (fun hHeld => ?_); refine with_tabW impl_GoodSession.tab1 impl_GoodSession.bits1 (fun HT_ HW_ => ?_); generalize w3.drew = w24 at BK193 HB hHeld ⊢; refine pV 0 7 (mqN 48 1) ?_ rfl rfl (any_of HT_.out (by kernel_rfl)) (fun _ _ _ h => h) (Or.inl ⟨by rfl, ?_⟩) ?_ ?_ ?_; rotate_left
    ·intro w'; go_simp; with_reducible rfl
    rotate_left
    ·simp only [Act.put, setA, set0, setS, i64_w]; rfl
    refine take_ (i := 1) (N := some 8) (v := ?_) (a' := ?_) (mqN 48 2) rfl rfl (take_ofW HT_.out HW_.out (by kernel_rfl)) (fun _ _ _ h => h) (Or.inl ⟨by rfl, ?_⟩) hHeld ?_ ?_; rotate_left
    ·rintro w' ⟨s0, s1, s2, s3, s4, s5, s6⟩
     go_simp; with_reducible rfl
    rotate_left
    ·simp only [Act.put, setA, set0, setS, i64_w]; rfl
    refine one_ (i := 2) (N := some 9) (mqN 48 3) rfl rfl (one_of HT_.out (by kernel_rfl)) (by decide) (fun K hK => ?_); refine goes_ Try.func79 (by kernel_rfl) rfl #[.string a0_0] (by rfl) rfl rfl (by (try simp only [List.map_toArray, List.map_cons, List.map_nil]); first | done | rfl | (simp only [List.length_drop, List.length_take]; rfl)) ?_; with_reducible refine (impl_isBlock.calls a0_0 true _ A4.out).mono ?_
    rintro e w' ⟨rfl, ⟨nd, rfl⟩⟩
    refine ⟨_, rfl, ?_⟩; refine hK.out _ _ ⟨(blk_cell BK193.out 0).trans rfl, (blk_cell BK193.out 1).trans rfl, (blk_cell BK193.out 2).trans rfl, (blk_cell BK193.out 3).trans rfl, (blk_cell BK193.out 4).trans rfl, (blk_cell BK193.out 5).trans rfl, (blk_cell BK193.out 6).trans rfl⟩ (fun hHeld => ?_); clear hK K; refine norm_ (a' := ?_) ?_ ?_; rotate_left
    ·show Act.put _ (some 9) _ = _; simp only [Act.put, setA, set0, setS, i64_w]; rfl
    refine pV 3 10 (mqN 48 4) ?_ rfl rfl (any_of HT_.out (by kernel_rfl)) (fun _ _ _ h => h) (Or.inl ⟨by rfl, ?_⟩) ?_ ?_ ?_; rotate_left
    ·intro w'; go_simp; with_reducible rfl
    rotate_left
    ·simp only [Act.put, setA, set0, setS, i64_w]; rfl
    refine pV 4 11 (mqN 48 5) ?_ rfl rfl (any_of HT_.out (by kernel_rfl)) (fun _ _ _ h => h) (Or.inl ⟨by rfl, ?_⟩) ?_ ?_ ?_; rotate_left
    ·intro w'; go_simp; with_reducible rfl
    rotate_left
    ·simp only [Act.put, setA, set0, setS, i64_w]; rfl
    refine pV 5 12 (mqN 48 6) ?_ rfl rfl (any_of HT_.out (by kernel_rfl)) (fun _ _ _ h => h) (Or.inl ⟨by rfl, ?_⟩) ?_ ?_ ?_; rotate_left
    ·intro w'; go_simp; with_reducible rfl
    rotate_left
    ·simp only [Act.put, setA, set0, setS, i64_w]; rfl
    refine pV 8 15 #[tt,tt,tt,tt,tt,tt,ff,ff,tt,ff,ff,ff,ff,ff,ff,ff,ff,ff,ff,ff,ff,ff,ff,ff,ff,ff,ff,ff,ff,ff,ff,ff,ff,ff,ff,ff,ff,ff,ff,ff,ff,ff,ff,ff,ff,ff,ff,ff] ?_ rfl rfl (any_of HT_.out (by kernel_rfl)) (fun _ _ _ h => h) (Or.inl ⟨by rfl, ?_⟩) ?_ ?_ ?_; rotate_left
    ·intro w'; go_simp; with_reducible rfl
    rotate_left
    ·simp only [Act.put, setA, set0, setS, i64_w]; rfl
    refine take_ (i := 6) (N := some 13) (v := ?_) (a' := ?_) #[tt,tt,tt,tt,tt,tt,tt,ff,tt,ff,ff,ff,ff,ff,ff,ff,ff,ff,ff,ff,ff,ff,ff,ff,ff,ff,ff,ff,ff,ff,ff,ff,ff,ff,ff,ff,ff,ff,ff,ff,ff,ff,ff,ff,ff,ff,ff,ff] rfl rfl (take_ofW HT_.out HW_.out (by kernel_rfl)) (fun _ _ _ h => h) (Or.inl ⟨by rfl, ?_⟩) hHeld ?_ ?_; rotate_left
    ·rintro w' ⟨s0, s1, s2, s3, s4, s5, s6⟩
     go_simp; with_reducible rfl
    rotate_left
    ·simp only [Act.put, setA, set0, setS, i64_w]; rfl
    refine pV 7 14 (mqN 48 9) ?_ rfl rfl (any_of HT_.out (by kernel_rfl)) (fun _ _ _ h => h) (Or.inl ⟨by rfl, ?_⟩) ?_ ?_ ?_; rotate_left
    ·intro w'; go_simp; with_reducible rfl
    rotate_left
    ·simp only [Act.put, setA, set0, setS, i64_w]; rfl
    refine take_ (i := 9) (N := some 16) (v := ?_) (a' := ?_) (mqN 48 10) rfl rfl (take_ofW HT_.out HW_.out (by kernel_rfl)) (fun _ _ _ h => h) (Or.inl ⟨by rfl, ?_⟩) hHeld ?_ ?_; rotate_left
    ·rintro w' ⟨s0, s1, s2, s3, s4, s5, s6⟩
     go_simp; with_reducible rfl
    rotate_left
    ·simp only [Act.put, setA, set0, setS, i64_w]; rfl
    refine one_ (i := 10) (N := some 17) (mqN 48 11) rfl rfl (one_of HT_.out (by kernel_rfl)) (by decide) (fun K hK => ?_); refine goes_ Try.func80 (by kernel_rfl) rfl #[.string a0_0] (by rfl) rfl rfl (by (try simp only [List.map_toArray, List.map_cons, List.map_nil]); first | done | rfl | (simp only [List.length_drop, List.length_take]; rfl)) ?_; with_reducible refine (impl_many.calls a0_0 t195 _ A6.out).mono ?_
    rintro e w' ⟨rfl, ⟨nd, rfl⟩⟩
    refine ⟨_, rfl, ?_⟩; refine hK.out _ _ ⟨(blk_cell BK193.out 0).trans rfl, (blk_cell BK193.out 1).trans rfl, (blk_cell BK193.out 2).trans rfl, (blk_cell BK193.out 3).trans rfl, (blk_cell BK193.out 4).trans rfl, (blk_cell BK193.out 5).trans rfl, (blk_cell BK193.out 6).trans rfl⟩ (fun hHeld => ?_); clear hK K; refine norm_ (a' := ?_) ?_ ?_; rotate_left
    ·show Act.put _ (some 17) _ = _; simp only [Act.put, setA, set0, setS, i64_w]; rfl
    refine pV 11 18 (mqN 48 12) ?_ rfl rfl (any_of HT_.out (by kernel_rfl)) (fun _ _ _ h => h) (Or.inl ⟨by rfl, ?_⟩) ?_ ?_ ?_; rotate_left
    ·intro w'; go_simp; with_reducible rfl
    rotate_left
    ·simp only [Act.put, setA, set0, setS, i64_w]; rfl
    refine pV 12 19 (mqN 48 13) ?_ rfl rfl (any_of HT_.out (by kernel_rfl)) (fun _ _ _ h => h) (Or.inl ⟨by rfl, ?_⟩) ?_ ?_ ?_; rotate_left
    ·intro w'; go_simp; with_reducible rfl
    rotate_left
    ·simp only [Act.put, setA, set0, setS, i64_w]; rfl
    refine pV 13 20 (mqN 48 14) ?_ rfl rfl (any_of HT_.out (by kernel_rfl)) (fun _ _ _ h => h) (Or.inl ⟨by rfl, ?_⟩) ?_ ?_ ?_; rotate_left
    ·intro w'; go_simp; with_reducible rfl
    rotate_left
    ·simp only [Act.put, setA, set0, setS, i64_w]; rfl
    refine pU 14 21 (mqN 48 15) rfl rfl (any_of HT_.out (by kernel_rfl)) (fun _ _ _ h => h) (Or.inr ⟨by rfl, rfl⟩) ?_ ?_ ?_; rotate_left
    ·simp only [Act.put, setA, set0, setS, i64_w]; rfl
    refine pU 15 22 (mqN 48 16) rfl rfl (any_of HT_.out (by kernel_rfl)) (fun _ _ _ h => h) (Or.inr ⟨by rfl, rfl⟩) ?_ ?_ ?_; rotate_left
    ·simp only [Act.put, setA, set0, setS, i64_w]; rfl
    refine pU 16 23 (mqN 48 17) rfl rfl (any_of HT_.out (by kernel_rfl)) (fun _ _ _ h => h) (Or.inr ⟨by rfl, rfl⟩) ?_ ?_ ?_; rotate_left
    ·simp only [Act.put, setA, set0, setS, i64_w]; rfl
    refine pU 17 24 (mqN 48 18) rfl rfl (any_of HT_.out (by kernel_rfl)) (fun _ _ _ h => h) (Or.inr ⟨by rfl, rfl⟩) ?_ ?_ ?_; rotate_left
    ·simp only [Act.put, setA, set0, setS, i64_w]; rfl
    refine pU 18 25 (mqN 48 19) rfl rfl (any_of HT_.out (by kernel_rfl)) (fun _ _ _ h => h) (Or.inr ⟨by rfl, rfl⟩) ?_ ?_ ?_; rotate_left
    ·simp only [Act.put, setA, set0, setS, i64_w]; rfl
    refine pU 19 26 (mqN 48 20) rfl rfl (any_of HT_.out (by kernel_rfl)) (fun _ _ _ h => h) (Or.inr ⟨by rfl, rfl⟩) ?_ ?_ ?_; rotate_left
    ·simp only [Act.put, setA, set0, setS, i64_w]; rfl
    refine pV 20 27 (mqN 48 21) ?_ rfl rfl (any_of HT_.out (by kernel_rfl)) (fun _ _ _ h => h) (Or.inl ⟨by rfl, ?_⟩) ?_ ?_ ?_; rotate_left
    ·intro w'; go_simp; with_reducible rfl
    rotate_left
    ·simp only [Act.put, setA, set0, setS, i64_w]; rfl
    refine pV 21 28 (mqN 48 22) ?_ rfl rfl (any_of HT_.out (by kernel_rfl)) (fun _ _ _ h => h) (Or.inl ⟨by rfl, ?_⟩) ?_ ?_ ?_; rotate_left
    ·intro w'; go_simp; with_reducible rfl
    rotate_left
    ·simp only [Act.put, setA, set0, setS, i64_w]; rfl
    refine pU 22 29 (mqN 48 23) rfl rfl (any_of HT_.out (by kernel_rfl)) (fun _ _ _ h => h) (Or.inr ⟨by rfl, rfl⟩) ?_ ?_ ?_; rotate_left
    ·simp only [Act.put, setA, set0, setS, i64_w]; rfl
    refine pU 23 30 (mqN 48 24) rfl rfl (any_of HT_.out (by kernel_rfl)) (fun _ _ _ h => h) (Or.inr ⟨by rfl, rfl⟩) ?_ ?_ ?_; rotate_left
    ·simp only [Act.put, setA, set0, setS, i64_w]; rfl
    refine pU 24 31 (mqN 48 25) rfl rfl (any_of HT_.out (by kernel_rfl)) (fun _ _ _ h => h) (Or.inr ⟨by rfl, rfl⟩) ?_ ?_ ?_; rotate_left
    ·simp only [Act.put, setA, set0, setS, i64_w]; rfl
    refine pU 25 32 (mqN 48 26) rfl rfl (any_of HT_.out (by kernel_rfl)) (fun _ _ _ h => h) (Or.inr ⟨by rfl, rfl⟩) ?_ ?_ ?_; rotate_left
    ·simp only [Act.put, setA, set0, setS, i64_w]; rfl
    refine pU 26 33 (mqN 48 27) rfl rfl (any_of HT_.out (by kernel_rfl)) (fun _ _ _ h => h) (Or.inr ⟨by rfl, rfl⟩) ?_ ?_ ?_; rotate_left
    ·simp only [Act.put, setA, set0, setS, i64_w]; rfl
    refine pV 27 34 (mqN 48 28) ?_ rfl rfl (any_of HT_.out (by kernel_rfl)) (fun _ _ _ h => h) (Or.inl ⟨by rfl, ?_⟩) ?_ ?_ ?_; rotate_left
    ·intro w'; go_simp; with_reducible rfl
    rotate_left
    ·simp only [Act.put, setA, set0, setS, i64_w]; rfl
    refine pV 28 35 (mqN 48 29) ?_ rfl rfl (any_of HT_.out (by kernel_rfl)) (fun _ _ _ h => h) (Or.inl ⟨by rfl, ?_⟩) ?_ ?_ ?_; rotate_left
    ·intro w'; go_simp; with_reducible rfl
    rotate_left
    ·simp only [Act.put, setA, set0, setS, i64_w]; rfl
    refine pU 29 36 (mqN 48 30) rfl rfl (any_of HT_.out (by kernel_rfl)) (fun _ _ _ h => h) (Or.inr ⟨by rfl, rfl⟩) ?_ ?_ ?_; rotate_left
    ·simp only [Act.put, setA, set0, setS, i64_w]; rfl
    refine pU 30 37 (mqN 48 31) rfl rfl (any_of HT_.out (by kernel_rfl)) (fun _ _ _ h => h) (Or.inr ⟨by rfl, rfl⟩) ?_ ?_ ?_; rotate_left
    ·simp only [Act.put, setA, set0, setS, i64_w]; rfl
    refine pU 31 38 (mqN 48 32) rfl rfl (any_of HT_.out (by kernel_rfl)) (fun _ _ _ h => h) (Or.inr ⟨by rfl, rfl⟩) ?_ ?_ ?_; rotate_left
    ·simp only [Act.put, setA, set0, setS, i64_w]; rfl
    refine pU 32 39 (mqN 48 33) rfl rfl (any_of HT_.out (by kernel_rfl)) (fun _ _ _ h => h) (Or.inr ⟨by rfl, rfl⟩) ?_ ?_ ?_; rotate_left
    ·simp only [Act.put, setA, set0, setS, i64_w]; rfl
    refine pU 33 40 (mqN 48 34) rfl rfl (any_of HT_.out (by kernel_rfl)) (fun _ _ _ h => h) (Or.inr ⟨by rfl, rfl⟩) ?_ ?_ ?_; rotate_left
    ·simp only [Act.put, setA, set0, setS, i64_w]; rfl
    refine pU 34 41 (mqN 48 35) rfl rfl (any_of HT_.out (by kernel_rfl)) (fun _ _ _ h => h) (Or.inr ⟨by rfl, rfl⟩) ?_ ?_ ?_; rotate_left
    ·simp only [Act.put, setA, set0, setS, i64_w]; rfl
    refine pV 35 42 (mqN 48 36) ?_ rfl rfl (any_of HT_.out (by kernel_rfl)) (fun _ _ _ h => h) (Or.inl ⟨by rfl, ?_⟩) ?_ ?_ ?_; rotate_left
    ·intro w'; go_simp; with_reducible rfl
    rotate_left
    ·simp only [Act.put, setA, set0, setS, i64_w]; rfl
    refine pV 36 43 (mqN 48 37) ?_ rfl rfl (any_of HT_.out (by kernel_rfl)) (fun _ _ _ h => h) (Or.inl ⟨by rfl, ?_⟩) ?_ ?_ ?_; rotate_left
    ·intro w'; go_simp; with_reducible rfl
    rotate_left
    ·simp only [Act.put, setA, set0, setS, i64_w]; rfl
    refine pU 37 44 (mqN 48 38) rfl rfl (any_of HT_.out (by kernel_rfl)) (fun _ _ _ h => h) (Or.inr ⟨by rfl, rfl⟩) ?_ ?_ ?_; rotate_left
    ·simp only [Act.put, setA, set0, setS, i64_w]; rfl
    refine pU 38 45 (mqN 48 39) rfl rfl (any_of HT_.out (by kernel_rfl)) (fun _ _ _ h => h) (Or.inr ⟨by rfl, rfl⟩) ?_ ?_ ?_; rotate_left
    ·simp only [Act.put, setA, set0, setS, i64_w]; rfl
    refine pU 39 46 (mqN 48 40) rfl rfl (any_of HT_.out (by kernel_rfl)) (fun _ _ _ h => h) (Or.inr ⟨by rfl, rfl⟩) ?_ ?_ ?_; rotate_left
    ·simp only [Act.put, setA, set0, setS, i64_w]; rfl
    refine pU 40 47 (mqN 48 41) rfl rfl (any_of HT_.out (by kernel_rfl)) (fun _ _ _ h => h) (Or.inr ⟨by rfl, rfl⟩) ?_ ?_ ?_; rotate_left
    ·simp only [Act.put, setA, set0, setS, i64_w]; rfl
    refine pV 41 48 (mqN 48 42) ?_ rfl rfl (any_of HT_.out (by kernel_rfl)) (fun _ _ _ h => h) (Or.inl ⟨by rfl, ?_⟩) ?_ ?_ ?_; rotate_left
    ·intro w'; go_simp; with_reducible rfl
    rotate_left
    ·simp only [Act.put, setA, set0, setS, i64_w]; rfl
    refine pV 42 49 (mqN 48 43) ?_ rfl rfl (any_of HT_.out (by kernel_rfl)) (fun _ _ _ h => h) (Or.inl ⟨by rfl, ?_⟩) ?_ ?_ ?_; rotate_left
    ·intro w'; go_simp; with_reducible rfl
    rotate_left
    ·simp only [Act.put, setA, set0, setS, i64_w]; rfl
    refine pU 43 50 (mqN 48 44) rfl rfl (any_of HT_.out (by kernel_rfl)) (fun _ _ _ h => h) (Or.inr ⟨by rfl, rfl⟩) ?_ ?_ ?_; rotate_left
    ·simp only [Act.put, setA, set0, setS, i64_w]; rfl
    refine pU 44 51 (mqN 48 45) rfl rfl (any_of HT_.out (by kernel_rfl)) (fun _ _ _ h => h) (Or.inr ⟨by rfl, rfl⟩) ?_ ?_ ?_; rotate_left
    ·simp only [Act.put, setA, set0, setS, i64_w]; rfl
    refine pU 45 52 (mqN 48 46) rfl rfl (any_of HT_.out (by kernel_rfl)) (fun _ _ _ h => h) (Or.inr ⟨by rfl, rfl⟩) ?_ ?_ ?_; rotate_left
    ·simp only [Act.put, setA, set0, setS, i64_w]; rfl
    refine pU 46 53 (mqN 48 47) rfl rfl (any_of HT_.out (by kernel_rfl)) (fun _ _ _ h => h) (Or.inr ⟨by rfl, rfl⟩) ?_ ?_ ?_; rotate_left
    ·simp only [Act.put, setA, set0, setS, i64_w]; rfl
    refine pV 47 54 (mqN 48 48) ?_ rfl rfl (any_of HT_.out (by kernel_rfl)) (fun _ _ _ h => h) (Or.inl ⟨by rfl, ?_⟩) ?_ ?_ ?_; rotate_left
    ·intro w'; go_simp; with_reducible rfl
    rotate_left
    ·simp only [Act.put, setA, set0, setS, i64_w]; rfl
    refine done_ (done_of HT_.out (by kernel_rfl)) ?_; try go_wp2
    go_meet
    case rel => exact ⟨_, (true), (by first | rfl | (simp; done) | (simp [*]; done)), H', ⟨by first | omega | exact Nat.le_refl _⟩, ⟨by (with_reducible repeat (first | refine blk_drewN ?_ _ | refine blk_drew ?_ | refine blk_alloc ?_ _)); exact BK193.out⟩, ⟨by repeat (first | (with_reducible first | exact HB.out | apply below_alloc | apply pw_below_drewN | apply below_drew1 | refine below_set ?_ GE193.out) | exact HB.out | (with_reducible exact Below.refl _ _))⟩⟩
  ·replace c5 := Bool.eq_false_iff.mpr c5; subst c5; rw [if_neg (show ¬ (false = true) by decide)] at H; have H' := Aside0.mk H; clear H; try go_wp2
   replace BK193 := Aside0.mk (blk_drew BK193.out); replace HB := Aside0.mk (below_drew1 HB.out); refine start_ (n := 48) (S := fun w' => w'.cell? ⟨gb193, 0, none⟩ = some (.string a0_0) ∧ w'.cell? ⟨gb193, 1, none⟩ = some (.slice A0_1 l0_1.length c0_1) ∧ w'.cell? ⟨gb193, 2, none⟩ = some (.slice A0_2 l0_2.length c0_2) ∧ w'.cell? ⟨gb193, 3, none⟩ = some (.string a0_3) ∧ w'.cell? ⟨gb193, 4, none⟩ = some (.bool a0_4) ∧ w'.cell? ⟨gb193, 5, none⟩ = some (.slice A0_5 l0_5.length c0_5) ∧ w'.cell? ⟨gb193, 6, none⟩ = some (.slice A0_6 l0_6.length c0_6)) (ds := []) (mqN 48 0) (by kernel_rfl) rfl rfl ⟨(blk_cell BK193.out 0).trans rfl, (blk_cell BK193.out 1).trans rfl, (blk_cell BK193.out 2).trans rfl, (blk_cell BK193.out 3).trans rfl, (blk_cell BK193.out 4).trans rfl, (blk_cell BK193.out 5).trans rfl, (blk_cell BK193.out 6).trans rfl⟩ (fun hHeld => ?_); refine with_tabW impl_GoodSession.tab1 impl_GoodSession.bits1 (fun HT_ HW_ => ?_); generalize w3.drew = w25 at BK193 HB hHeld ⊢; refine pV 0 7 (mqN 48 1) ?_ rfl rfl (any_of HT_.out (by kernel_rfl)) (fun _ _ _ h => h) (Or.inl ⟨by rfl, ?_⟩) ?_ ?_ ?_; rotate_left
   ·intro w'; go_simp; with_reducible rfl
   rotate_left
   ·simp only [Act.put, setA, set0, setS, i64_w]; rfl
   refine take_ (i := 1) (N := some 8) (v := ?_) (a' := ?_) (mqN 48 2) rfl rfl (take_ofW HT_.out HW_.out (by kernel_rfl)) (fun _ _ _ h => h) (Or.inl ⟨by rfl, ?_⟩) hHeld ?_ ?_; rotate_left
   ·rintro w' ⟨s0, s1, s2, s3, s4, s5, s6⟩
    go_simp; with_reducible rfl
   rotate_left
   ·simp only [Act.put, setA, set0, setS, i64_w]; rfl
   refine one_ (i := 2) (N := some 9) (mqN 48 3) rfl rfl (one_of HT_.out (by kernel_rfl)) (by decide) (fun K hK => ?_); refine goes_ Try.func79 (by kernel_rfl) rfl #[.string a0_0] (by rfl) rfl rfl (by (try simp only [List.map_toArray, List.map_cons, List.map_nil]); first | done | rfl | (simp only [List.length_drop, List.length_take]; rfl)) ?_; with_reducible refine (impl_isBlock.calls a0_0 false _ A4.out).mono ?_
   rintro e w' ⟨rfl, ⟨nd, rfl⟩⟩
   refine ⟨_, rfl, ?_⟩; refine hK.out _ _ ⟨(blk_cell BK193.out 0).trans rfl, (blk_cell BK193.out 1).trans rfl, (blk_cell BK193.out 2).trans rfl, (blk_cell BK193.out 3).trans rfl, (blk_cell BK193.out 4).trans rfl, (blk_cell BK193.out 5).trans rfl, (blk_cell BK193.out 6).trans rfl⟩ (fun hHeld => ?_); clear hK K; refine norm_ (a' := ?_) ?_ ?_; rotate_left
   ·show Act.put _ (some 9) _ = _; simp only [Act.put, setA, set0, setS, i64_w]; rfl
   refine pV 3 10 (mqN 48 4) ?_ rfl rfl (any_of HT_.out (by kernel_rfl)) (fun _ _ _ h => h) (Or.inl ⟨by rfl, ?_⟩) ?_ ?_ ?_; rotate_left
   ·intro w'; go_simp; with_reducible rfl
   rotate_left
   ·simp only [Act.put, setA, set0, setS, i64_w]; rfl
   refine pV 4 11 (mqN 48 5) ?_ rfl rfl (any_of HT_.out (by kernel_rfl)) (fun _ _ _ h => h) (Or.inl ⟨by rfl, ?_⟩) ?_ ?_ ?_; rotate_left
   ·intro w'; go_simp; with_reducible rfl
   rotate_left
   ·simp only [Act.put, setA, set0, setS, i64_w]; rfl
   refine pU 5 12 (mqN 48 6) rfl rfl (any_of HT_.out (by kernel_rfl)) (fun _ _ _ h => h) (Or.inr ⟨by rfl, rfl⟩) ?_ ?_ ?_; rotate_left
   ·simp only [Act.put, setA, set0, setS, i64_w]; rfl
   refine pU 6 13 (mqN 48 7) rfl rfl (any_of HT_.out (by kernel_rfl)) (fun _ _ _ h => h) (Or.inr ⟨by rfl, rfl⟩) ?_ ?_ ?_; rotate_left
   ·simp only [Act.put, setA, set0, setS, i64_w]; rfl
   refine pU 7 14 (mqN 48 8) rfl rfl (any_of HT_.out (by kernel_rfl)) (fun _ _ _ h => h) (Or.inr ⟨by rfl, rfl⟩) ?_ ?_ ?_; rotate_left
   ·simp only [Act.put, setA, set0, setS, i64_w]; rfl
   refine pU 8 15 (mqN 48 9) rfl rfl (any_of HT_.out (by kernel_rfl)) (fun _ _ _ h => h) (Or.inr ⟨by rfl, rfl⟩) ?_ ?_ ?_; rotate_left
   ·simp only [Act.put, setA, set0, setS, i64_w]; rfl
   refine pU 9 16 (mqN 48 10) rfl rfl (any_of HT_.out (by kernel_rfl)) (fun _ _ _ h => h) (Or.inr ⟨by rfl, rfl⟩) ?_ ?_ ?_; rotate_left
   ·simp only [Act.put, setA, set0, setS, i64_w]; rfl
   refine pU 10 17 (mqN 48 11) rfl rfl (any_of HT_.out (by kernel_rfl)) (fun _ _ _ h => h) (Or.inr ⟨by rfl, rfl⟩) ?_ ?_ ?_; rotate_left
   ·simp only [Act.put, setA, set0, setS, i64_w]; rfl
   refine pU 11 18 (mqN 48 12) rfl rfl (any_of HT_.out (by kernel_rfl)) (fun _ _ _ h => h) (Or.inr ⟨by rfl, rfl⟩) ?_ ?_ ?_; rotate_left
   ·simp only [Act.put, setA, set0, setS, i64_w]; rfl
   refine pV 12 19 (mqN 48 13) ?_ rfl rfl (any_of HT_.out (by kernel_rfl)) (fun _ _ _ h => h) (Or.inl ⟨by rfl, ?_⟩) ?_ ?_ ?_; rotate_left
   ·intro w'; go_simp; with_reducible rfl
   rotate_left
   ·simp only [Act.put, setA, set0, setS, i64_w]; rfl
   refine pV 13 20 (mqN 48 14) ?_ rfl rfl (any_of HT_.out (by kernel_rfl)) (fun _ _ _ h => h) (Or.inl ⟨by rfl, ?_⟩) ?_ ?_ ?_; rotate_left
   ·intro w'; go_simp; with_reducible rfl
   rotate_left
   ·simp only [Act.put, setA, set0, setS, i64_w]; rfl
   refine pU 14 21 (mqN 48 15) rfl rfl (any_of HT_.out (by kernel_rfl)) (fun _ _ _ h => h) (Or.inr ⟨by rfl, rfl⟩) ?_ ?_ ?_; rotate_left
   ·simp only [Act.put, setA, set0, setS, i64_w]; rfl
   refine pU 15 22 (mqN 48 16) rfl rfl (any_of HT_.out (by kernel_rfl)) (fun _ _ _ h => h) (Or.inr ⟨by rfl, rfl⟩) ?_ ?_ ?_; rotate_left
   ·simp only [Act.put, setA, set0, setS, i64_w]; rfl
   refine pU 16 23 (mqN 48 17) rfl rfl (any_of HT_.out (by kernel_rfl)) (fun _ _ _ h => h) (Or.inr ⟨by rfl, rfl⟩) ?_ ?_ ?_; rotate_left
   ·simp only [Act.put, setA, set0, setS, i64_w]; rfl
   refine pU 17 24 (mqN 48 18) rfl rfl (any_of HT_.out (by kernel_rfl)) (fun _ _ _ h => h) (Or.inr ⟨by rfl, rfl⟩) ?_ ?_ ?_; rotate_left
   ·simp only [Act.put, setA, set0, setS, i64_w]; rfl
   refine pU 18 25 (mqN 48 19) rfl rfl (any_of HT_.out (by kernel_rfl)) (fun _ _ _ h => h) (Or.inr ⟨by rfl, rfl⟩) ?_ ?_ ?_; rotate_left
   ·simp only [Act.put, setA, set0, setS, i64_w]; rfl
   refine pU 19 26 (mqN 48 20) rfl rfl (any_of HT_.out (by kernel_rfl)) (fun _ _ _ h => h) (Or.inr ⟨by rfl, rfl⟩) ?_ ?_ ?_; rotate_left
   ·simp only [Act.put, setA, set0, setS, i64_w]; rfl
   refine pV 20 27 (mqN 48 21) ?_ rfl rfl (any_of HT_.out (by kernel_rfl)) (fun _ _ _ h => h) (Or.inl ⟨by rfl, ?_⟩) ?_ ?_ ?_; rotate_left
   ·intro w'; go_simp; with_reducible rfl
   rotate_left
   ·simp only [Act.put, setA, set0, setS, i64_w]; rfl
   refine pV 21 28 (mqN 48 22) ?_ rfl rfl (any_of HT_.out (by kernel_rfl)) (fun _ _ _ h => h) (Or.inl ⟨by rfl, ?_⟩) ?_ ?_ ?_; rotate_left
   ·intro w'; go_simp; with_reducible rfl
   rotate_left
   ·simp only [Act.put, setA, set0, setS, i64_w]; rfl
   refine pU 22 29 (mqN 48 23) rfl rfl (any_of HT_.out (by kernel_rfl)) (fun _ _ _ h => h) (Or.inr ⟨by rfl, rfl⟩) ?_ ?_ ?_; rotate_left
   ·simp only [Act.put, setA, set0, setS, i64_w]; rfl
   refine pU 23 30 (mqN 48 24) rfl rfl (any_of HT_.out (by kernel_rfl)) (fun _ _ _ h => h) (Or.inr ⟨by rfl, rfl⟩) ?_ ?_ ?_; rotate_left
   ·simp only [Act.put, setA, set0, setS, i64_w]; rfl
   refine pU 24 31 (mqN 48 25) rfl rfl (any_of HT_.out (by kernel_rfl)) (fun _ _ _ h => h) (Or.inr ⟨by rfl, rfl⟩) ?_ ?_ ?_; rotate_left
   ·simp only [Act.put, setA, set0, setS, i64_w]; rfl
   refine pU 25 32 (mqN 48 26) rfl rfl (any_of HT_.out (by kernel_rfl)) (fun _ _ _ h => h) (Or.inr ⟨by rfl, rfl⟩) ?_ ?_ ?_; rotate_left
   ·simp only [Act.put, setA, set0, setS, i64_w]; rfl
   refine pU 26 33 (mqN 48 27) rfl rfl (any_of HT_.out (by kernel_rfl)) (fun _ _ _ h => h) (Or.inr ⟨by rfl, rfl⟩) ?_ ?_ ?_; rotate_left
   ·simp only [Act.put, setA, set0, setS, i64_w]; rfl
   refine pV 27 34 (mqN 48 28) ?_ rfl rfl (any_of HT_.out (by kernel_rfl)) (fun _ _ _ h => h) (Or.inl ⟨by rfl, ?_⟩) ?_ ?_ ?_; rotate_left
   ·intro w'; go_simp; with_reducible rfl
   rotate_left
   ·simp only [Act.put, setA, set0, setS, i64_w]; rfl
   refine pV 28 35 (mqN 48 29) ?_ rfl rfl (any_of HT_.out (by kernel_rfl)) (fun _ _ _ h => h) (Or.inl ⟨by rfl, ?_⟩) ?_ ?_ ?_; rotate_left
   ·intro w'; go_simp; with_reducible rfl
   rotate_left
   ·simp only [Act.put, setA, set0, setS, i64_w]; rfl
   refine pU 29 36 (mqN 48 30) rfl rfl (any_of HT_.out (by kernel_rfl)) (fun _ _ _ h => h) (Or.inr ⟨by rfl, rfl⟩) ?_ ?_ ?_; rotate_left
   ·simp only [Act.put, setA, set0, setS, i64_w]; rfl
   refine pU 30 37 (mqN 48 31) rfl rfl (any_of HT_.out (by kernel_rfl)) (fun _ _ _ h => h) (Or.inr ⟨by rfl, rfl⟩) ?_ ?_ ?_; rotate_left
   ·simp only [Act.put, setA, set0, setS, i64_w]; rfl
   refine pU 31 38 (mqN 48 32) rfl rfl (any_of HT_.out (by kernel_rfl)) (fun _ _ _ h => h) (Or.inr ⟨by rfl, rfl⟩) ?_ ?_ ?_; rotate_left
   ·simp only [Act.put, setA, set0, setS, i64_w]; rfl
   refine pU 32 39 (mqN 48 33) rfl rfl (any_of HT_.out (by kernel_rfl)) (fun _ _ _ h => h) (Or.inr ⟨by rfl, rfl⟩) ?_ ?_ ?_; rotate_left
   ·simp only [Act.put, setA, set0, setS, i64_w]; rfl
   refine pU 33 40 (mqN 48 34) rfl rfl (any_of HT_.out (by kernel_rfl)) (fun _ _ _ h => h) (Or.inr ⟨by rfl, rfl⟩) ?_ ?_ ?_; rotate_left
   ·simp only [Act.put, setA, set0, setS, i64_w]; rfl
   refine pU 34 41 (mqN 48 35) rfl rfl (any_of HT_.out (by kernel_rfl)) (fun _ _ _ h => h) (Or.inr ⟨by rfl, rfl⟩) ?_ ?_ ?_; rotate_left
   ·simp only [Act.put, setA, set0, setS, i64_w]; rfl
   refine pV 35 42 (mqN 48 36) ?_ rfl rfl (any_of HT_.out (by kernel_rfl)) (fun _ _ _ h => h) (Or.inl ⟨by rfl, ?_⟩) ?_ ?_ ?_; rotate_left
   ·intro w'; go_simp; with_reducible rfl
   rotate_left
   ·simp only [Act.put, setA, set0, setS, i64_w]; rfl
   refine pV 36 43 (mqN 48 37) ?_ rfl rfl (any_of HT_.out (by kernel_rfl)) (fun _ _ _ h => h) (Or.inl ⟨by rfl, ?_⟩) ?_ ?_ ?_; rotate_left
   ·intro w'; go_simp; with_reducible rfl
   rotate_left
   ·simp only [Act.put, setA, set0, setS, i64_w]; rfl
   refine pU 37 44 (mqN 48 38) rfl rfl (any_of HT_.out (by kernel_rfl)) (fun _ _ _ h => h) (Or.inr ⟨by rfl, rfl⟩) ?_ ?_ ?_; rotate_left
   ·simp only [Act.put, setA, set0, setS, i64_w]; rfl
   refine pU 38 45 (mqN 48 39) rfl rfl (any_of HT_.out (by kernel_rfl)) (fun _ _ _ h => h) (Or.inr ⟨by rfl, rfl⟩) ?_ ?_ ?_; rotate_left
   ·simp only [Act.put, setA, set0, setS, i64_w]; rfl
   refine pU 39 46 (mqN 48 40) rfl rfl (any_of HT_.out (by kernel_rfl)) (fun _ _ _ h => h) (Or.inr ⟨by rfl, rfl⟩) ?_ ?_ ?_; rotate_left
   ·simp only [Act.put, setA, set0, setS, i64_w]; rfl
   refine pU 40 47 (mqN 48 41) rfl rfl (any_of HT_.out (by kernel_rfl)) (fun _ _ _ h => h) (Or.inr ⟨by rfl, rfl⟩) ?_ ?_ ?_; rotate_left
   ·simp only [Act.put, setA, set0, setS, i64_w]; rfl
   refine pV 41 48 (mqN 48 42) ?_ rfl rfl (any_of HT_.out (by kernel_rfl)) (fun _ _ _ h => h) (Or.inl ⟨by rfl, ?_⟩) ?_ ?_ ?_; rotate_left
   ·intro w'; go_simp; with_reducible rfl
   rotate_left
   ·simp only [Act.put, setA, set0, setS, i64_w]; rfl
   refine pV 42 49 (mqN 48 43) ?_ rfl rfl (any_of HT_.out (by kernel_rfl)) (fun _ _ _ h => h) (Or.inl ⟨by rfl, ?_⟩) ?_ ?_ ?_; rotate_left
   ·intro w'; go_simp; with_reducible rfl
   rotate_left
   ·simp only [Act.put, setA, set0, setS, i64_w]; rfl
   refine pU 43 50 (mqN 48 44) rfl rfl (any_of HT_.out (by kernel_rfl)) (fun _ _ _ h => h) (Or.inr ⟨by rfl, rfl⟩) ?_ ?_ ?_; rotate_left
   ·simp only [Act.put, setA, set0, setS, i64_w]; rfl
   refine pU 44 51 (mqN 48 45) rfl rfl (any_of HT_.out (by kernel_rfl)) (fun _ _ _ h => h) (Or.inr ⟨by rfl, rfl⟩) ?_ ?_ ?_; rotate_left
   ·simp only [Act.put, setA, set0, setS, i64_w]; rfl
   refine pU 45 52 (mqN 48 46) rfl rfl (any_of HT_.out (by kernel_rfl)) (fun _ _ _ h => h) (Or.inr ⟨by rfl, rfl⟩) ?_ ?_ ?_; rotate_left
   ·simp only [Act.put, setA, set0, setS, i64_w]; rfl
   refine pU 46 53 (mqN 48 47) rfl rfl (any_of HT_.out (by kernel_rfl)) (fun _ _ _ h => h) (Or.inr ⟨by rfl, rfl⟩) ?_ ?_ ?_; rotate_left
   ·simp only [Act.put, setA, set0, setS, i64_w]; rfl
   refine pV 47 54 (mqN 48 48) ?_ rfl rfl (any_of HT_.out (by kernel_rfl)) (fun _ _ _ h => h) (Or.inl ⟨by rfl, ?_⟩) ?_ ?_ ?_; rotate_left
   ·intro w'; go_simp; with_reducible rfl
   rotate_left
   ·simp only [Act.put, setA, set0, setS, i64_w]; rfl
   refine done_ (done_of HT_.out (by kernel_rfl)) ?_; try go_wp2
   go_meet
   case rel => exact ⟨_, (true), (by first | rfl | (simp; done) | (simp [*]; done)), H', ⟨by first | omega | exact Nat.le_refl _⟩, ⟨by (with_reducible repeat (first | refine blk_drewN ?_ _ | refine blk_drew ?_ | refine blk_alloc ?_ _)); exact BK193.out⟩, ⟨by repeat (first | (with_reducible first | exact HB.out | apply below_alloc | apply pw_below_drewN | apply below_drew1 | refine below_set ?_ GE193.out) | exact HB.out | (with_reducible exact Below.refl _ _))⟩⟩
 case rest =>
  clear HC2; try clear p2
  try clear c5
  try clear c7
  try clear c7b0
  try clear c7b1
  try clear c8
  obtain ⟨kq, x54_1, rfl, HA, HJ1, BK193, HB⟩ := hcut; cases kq with
  | zero => exact absurd HA.out (by simp [impl_GoodSession.j0])
  | succ kj1 =>
   have H := HA.out; clear HA; simp only [impl_GoodSession.j0] at H; by_cases c26 : x54_1 = true
   ·subst c26; rw [if_pos rfl] at H; obtain rfl := Option.some.inj H; go_wp2; go_ret; exact ⟨by first | rfl | (simp [errW_none, errW_some] <;> rfl) | (simp [*, errW_none, errW_some] <;> rfl), by repeat (first | (with_reducible first | exact HB.out | apply below_alloc | apply pw_below_drewN | apply below_drew1 | refine below_set ?_ GE193.out) | exact HB.out | (with_reducible exact Below.refl _ _))⟩
   ·replace c26 := Bool.eq_false_iff.mpr c26; subst c26; rw [if_neg (show ¬ (false = true) by decide)] at H; have H' := Aside0.mk H; clear H; obtain ⟨hcz27_0, hcz27_1, hcz27_2, hcz27_3, hcz27_4, hcz27_5, hcz27_6, hfz27_0, hfz27_1, hfz27_2, hfz27_3, hfz27_4, hfz27_5, hfz27_6⟩ := cf7 BK193.out; go_wp2
    go_loopg [58] kj1 (fun kq v58 w' => ∃ (x58_2 : Int), v58 = .int .i64 x58_2 ∧ Aside0 (impl_GoodSession.l0 kq l0_5 (l0_5.length : Int) x58_2 a0_0 l0_1 l0_2 a0_3 a0_4 l0_5 l0_6 = some r) ∧ Aside0 (kq ≤ kj1) ∧ Aside0 (w'.heap[gb193]? = some (.cells #[.string a0_0, (.slice A0_1 l0_1.length c0_1), (.slice A0_2 l0_2.length c0_2), .string a0_3, .bool a0_4, (.slice A0_5 l0_5.length c0_5), (.slice A0_6 l0_6.length c0_6)] 48 (0, 0))) ∧ Aside0 (Below w.heap.size w w'))
    case atStart => exact ⟨(0), (by first | rfl | (simp; done) | (simp [*]; done)), H', ⟨Nat.le_refl _⟩, ⟨by (with_reducible repeat (first | refine blk_drewN ?_ _ | refine blk_drew ?_ | refine blk_alloc ?_ _)); exact BK193.out⟩, ⟨by repeat (first | (with_reducible first | exact HB.out | apply below_alloc | apply pw_below_drewN | apply below_drew1 | refine below_set ?_ GE193.out) | exact HB.out | (with_reducible exact Below.refl _ _))⟩⟩
    case round =>
     clear H'; try clear c2
     try clear p2
     try clear c5
     try clear c7
     try clear c7b0
     try clear c7b1
     try clear c8
     try clear c26
     try clear hcz27_0
     try clear hcz27_1
     try clear hcz27_2
     try clear hcz27_3
     try clear hcz27_4
     try clear hcz27_5
     try clear hcz27_6
     try clear hfz27_0
     try clear hfz27_1
     try clear hfz27_2
     try clear hfz27_3
     try clear hfz27_4
     try clear hfz27_5
     try clear hfz27_6
     try clear p2
     obtain ⟨x58_2, rfl, HA, HK2, BK193, HB⟩ := hrel; cases gk with
     | zero => exact absurd HA.out (by simp [impl_GoodSession.l0])
     | succ k2 =>
      have H := HA.out; clear HA; simp only [impl_GoodSession.l0] at H; by_cases c28 : x58_2 < (l0_5.length : Int)
      ·rw [if_pos c28] at H; have c28b0 : decide (x58_2 < (l0_5.length : Int)) = true := decide_eq_true c28; clear c28; by_cases c29 : 0 ≤ x58_2
       ·rw [if_pos c29] at H; have c29b0 : decide (0 ≤ x58_2) = true := decide_eq_true c29; clear c29; by_cases c30 : x58_2 < (l0_5.length : Int)
        ·rw [if_pos c30] at H; have c30b0 : decide (x58_2 < (l0_5.length : Int)) = true := decide_eq_true c30; clear c30; by_cases c31 : ((rd_T100 l0_5 x58_2).f0) = 1
         ·rw [if_pos c31] at H; have c31b0 : (((rd_T100 l0_5 x58_2).f0) == 1) = true := beq_iff_eq.mpr c31; have c31b1 : (((rd_T100 l0_5 x58_2).f0) != 1) = false := bne_eq_false_iff_eq.mpr c31; clear c31; replace H := Option.bind_eq_some_iff.mp H; obtain ⟨t201, A320, H⟩ := H; (try dsimp only at H); have A32 := Aside0.mk A320; clear A320; by_cases c33 : t201 = true
          ·subst c33; rw [if_pos rfl] at H; replace H := Option.bind_eq_some_iff.mp H; obtain ⟨t202, A340, H⟩ := H; (try dsimp only at H); have A34 := Aside0.mk A340; clear A340; by_cases c35 : ((rd_T100 l0_5 x58_2).f2).toList = t202.toList
           ·rw [if_pos c35] at H; have c35b0 : (((rd_T100 l0_5 x58_2).f2).toList == t202.toList) = true := beq_iff_eq.mpr c35; have c35b1 : (((rd_T100 l0_5 x58_2).f2).toList != t202.toList) = false := bne_eq_false_iff_eq.mpr c35; clear c35; by_cases c36 : (((rd_T100 l0_5 x58_2).f4).length : Int) = 0
            ·rw [if_pos c36] at H; have c36b0 : ((((rd_T100 l0_5 x58_2).f4).length : Int) == 0) = true := beq_iff_eq.mpr c36; have c36b1 : ((((rd_T100 l0_5 x58_2).f4).length : Int) != 0) = false := bne_eq_false_iff_eq.mpr c36; clear c36; have H' := Aside0.mk H; clear H; have p199 : 0 ≤ (x58_2 : Int) := of_decide_eq_true (by first | (with_reducible assumption) | assumption); have q199 : x58_2 < (l0_5.length : Int) := of_decide_eq_true (by first | (with_reducible assumption) | assumption); obtain ⟨ad199, A199_4, c199_4, e199, hx199_0, hx199_1, hx199_2, hx199_3, hx199_4, hl199_4, hi199_4⟩ := at_T100 HR0_5.out x58_2 p199 q199; cases e199; replace hx199_0 := (HB.out.cell (World.block_lt_of_cell? w _ hx199_0)).trans hx199_0; replace hx199_1 := (HB.out.cell (World.block_lt_of_cell? w _ hx199_1)).trans hx199_1; replace hx199_2 := (HB.out.cell (World.block_lt_of_cell? w _ hx199_2)).trans hx199_2; replace hx199_3 := (HB.out.cell (World.block_lt_of_cell? w _ hx199_3)).trans hx199_3; replace hx199_4 := (HB.out.cell (World.block_lt_of_cell? w _ hx199_4)).trans hx199_4; have HR199_4 := Aside0.mk hi199_4; have HC199_4 := Aside0.mk hl199_4; clear hi199_4 hl199_4; replace p199 := eq_true p199; replace q199 := eq_true q199; try go_wp2_with (first | ((with_reducible refine gate_dst (N := 4) rfl ?_); (try (refine gate_guard (by rfl) ?_; dsimp only)); refine box_event ?hg (N := 4) ?hd (cs := #[.int .i64 0, .int .i64 0, .string (⟨#[]⟩ : ByteArray), .bool false, .slice none 0 0]) (t := 100) ?hr ?_; (case hd => rfl); (case hg => rfl); (case hr => first | (go_simp; done) | (go_simp; rfl)); intro gb200 hg w37 hbox hb; have BK200 := Aside0.mk (hbox); have GW200 := ge_ HB hg; have GE200 := ge_ HB hg; replace HB := hb_ HB hb; have NB193_200 := nl_ BK193 hg; have NB200_193 := ng_ BK193 hg; replace BK193 := ba_ BK193 hb; clear hb hbox hg; have hnb38 := NB200_193.out; have hnc38 := NB193_200.out; obtain ⟨hcz39_0, hcz39_1, hcz39_2, hcz39_3, hcz39_4, hfz39_0, hfz39_1, hfz39_2, hfz39_3, hfz39_4⟩ := cf5 BK200.out))
             have n0_ : Aside0 ((((((w37.setCell ⟨gb200, 0, none⟩ (.int .i64 ((rd_T100 l0_5 x58_2).f0))).setCell ⟨gb200, 1, none⟩ (.int .i64 ((rd_T100 l0_5 x58_2).f1))).setCell ⟨gb200, 2, none⟩ (.string ((rd_T100 l0_5 x58_2).f2))).setCell ⟨gb200, 3, none⟩ (.bool ((rd_T100 l0_5 x58_2).f3))).setCell ⟨gb200, 4, none⟩ (.slice A199_4 ((rd_T100 l0_5 x58_2).f4).length c199_4)).heap[gb193]? = some (.cells #[.string a0_0, .slice A0_1 l0_1.length c0_1, .slice A0_2 l0_2.length c0_2, .string a0_3, .bool a0_4, .slice (some ad199) l0_5.length c0_5, .slice A0_6 l0_6.length c0_6] 48 (0, 0))) := ⟨by (with_reducible repeat (first | refine blk_drewN ?_ _ | refine blk_drew ?_ | refine blk_alloc ?_ _)); (iterate 5 refine blk_far ?_ NB193_200.out _); (with_reducible repeat (first | refine blk_drewN ?_ _ | refine blk_drew ?_ | refine blk_alloc ?_ _)); exact BK193.out⟩
             have n1_ : Aside0 ((((((w37.setCell ⟨gb200, 0, none⟩ (.int .i64 ((rd_T100 l0_5 x58_2).f0))).setCell ⟨gb200, 1, none⟩ (.int .i64 ((rd_T100 l0_5 x58_2).f1))).setCell ⟨gb200, 2, none⟩ (.string ((rd_T100 l0_5 x58_2).f2))).setCell ⟨gb200, 3, none⟩ (.bool ((rd_T100 l0_5 x58_2).f3))).setCell ⟨gb200, 4, none⟩ (.slice A199_4 ((rd_T100 l0_5 x58_2).f4).length c199_4)).heap[gb200]? = some (.cells #[.int .i64 ((rd_T100 l0_5 x58_2).f0), .int .i64 ((rd_T100 l0_5 x58_2).f1), .string ((rd_T100 l0_5 x58_2).f2), .bool ((rd_T100 l0_5 x58_2).f3), .slice A199_4 ((rd_T100 l0_5 x58_2).f4).length c199_4] 100 (0, 0))) := ⟨by (with_reducible repeat (first | refine blk_drewN ?_ _ | refine blk_drew ?_ | refine blk_alloc ?_ _)); exact bp5 BK200.out⟩
             have n2_ : Aside0 (Below w.heap.size w (((((w37.setCell ⟨gb200, 0, none⟩ (.int .i64 ((rd_T100 l0_5 x58_2).f0))).setCell ⟨gb200, 1, none⟩ (.int .i64 ((rd_T100 l0_5 x58_2).f1))).setCell ⟨gb200, 2, none⟩ (.string ((rd_T100 l0_5 x58_2).f2))).setCell ⟨gb200, 3, none⟩ (.bool ((rd_T100 l0_5 x58_2).f3))).setCell ⟨gb200, 4, none⟩ (.slice A199_4 ((rd_T100 l0_5 x58_2).f4).length c199_4))) := ⟨by repeat (first | (with_reducible first | exact HB.out | apply below_alloc | apply pw_below_drewN | apply below_drew1 | refine below_set ?_ GE193.out | refine below_set ?_ GE200.out) | exact HB.out | (with_reducible exact Below.refl _ _))⟩
             (try clear BK193); (try clear BK200); (try clear HB); generalize (((((w37.setCell ⟨gb200, 0, none⟩ (.int .i64 ((rd_T100 l0_5 x58_2).f0))).setCell ⟨gb200, 1, none⟩ (.int .i64 ((rd_T100 l0_5 x58_2).f1))).setCell ⟨gb200, 2, none⟩ (.string ((rd_T100 l0_5 x58_2).f2))).setCell ⟨gb200, 3, none⟩ (.bool ((rd_T100 l0_5 x58_2).f3))).setCell ⟨gb200, 4, none⟩ (.slice A199_4 ((rd_T100 l0_5 x58_2).f4).length c199_4)) = w40 at n0_ n1_ n2_ ⊢; have BK193 := n0_; have BK200 := n1_; have HB := n2_; clear n0_ n1_ n2_; replace BK193 := Aside0.mk (blk_drew BK193.out); replace BK200 := Aside0.mk (blk_drew BK200.out); replace HB := Aside0.mk (below_drew1 HB.out); refine start_ (n := 29) (S := fun w' => w'.cell? ⟨gb200, 0, none⟩ = some (.int .i64 ((rd_T100 l0_5 x58_2).f0)) ∧ w'.cell? ⟨gb200, 1, none⟩ = some (.int .i64 ((rd_T100 l0_5 x58_2).f1)) ∧ w'.cell? ⟨gb200, 2, none⟩ = some (.string ((rd_T100 l0_5 x58_2).f2)) ∧ w'.cell? ⟨gb200, 3, none⟩ = some (.bool ((rd_T100 l0_5 x58_2).f3)) ∧ w'.cell? ⟨gb200, 4, none⟩ = some (.slice A199_4 ((rd_T100 l0_5 x58_2).f4).length c199_4) ∧ w'.cell? ⟨gb193, 0, none⟩ = some (.string a0_0) ∧ w'.cell? ⟨gb193, 1, none⟩ = some (.slice A0_1 l0_1.length c0_1) ∧ w'.cell? ⟨gb193, 2, none⟩ = some (.slice A0_2 l0_2.length c0_2) ∧ w'.cell? ⟨gb193, 3, none⟩ = some (.string a0_3) ∧ w'.cell? ⟨gb193, 4, none⟩ = some (.bool a0_4) ∧ w'.cell? ⟨gb193, 5, none⟩ = some (.slice (some ad199) l0_5.length c0_5) ∧ w'.cell? ⟨gb193, 6, none⟩ = some (.slice A0_6 l0_6.length c0_6)) (ds := []) (mqN 29 0) (by kernel_rfl) rfl rfl ⟨(blk_cell BK200.out 0).trans rfl, (blk_cell BK200.out 1).trans rfl, (blk_cell BK200.out 2).trans rfl, (blk_cell BK200.out 3).trans rfl, (blk_cell BK200.out 4).trans rfl, (blk_cell BK193.out 0).trans rfl, (blk_cell BK193.out 1).trans rfl, (blk_cell BK193.out 2).trans rfl, (blk_cell BK193.out 3).trans rfl, (blk_cell BK193.out 4).trans rfl, (blk_cell BK193.out 5).trans rfl, (blk_cell BK193.out 6).trans rfl⟩ (fun hHeld => ?_); refine with_tabW impl_GoodSession.tab6 impl_GoodSession.bits6 (fun HT_ HW_ => ?_); generalize w40.drew = w41 at BK193 BK200 HB hHeld ⊢; refine pV 0 62 (mqN 29 1) ?_ rfl rfl (any_of HT_.out (by kernel_rfl)) (fun _ _ _ h => h) (Or.inl ⟨by rfl, ?_⟩) ?_ ?_ ?_; rotate_left
             ·intro w'; go_simp; with_reducible rfl
             rotate_left
             ·simp only [Act.put, setA, set0, setS, i64_w]; rfl
             refine take_ (i := 1) (N := some 63) (v := ?_) (a' := ?_) (mqN 29 2) rfl rfl (take_ofW HT_.out HW_.out (by kernel_rfl)) (fun _ _ _ h => h) (Or.inl ⟨by rfl, ?_⟩) hHeld ?_ ?_; rotate_left
             ·rintro w' ⟨s0, s1, s2, s3, s4, s5, s6, s7, s8, s9, s10, s11⟩
              go_simp; with_reducible rfl
             rotate_left
             ·simp only [Act.put, setA, set0, setS, i64_w]; rfl
             refine pV 2 64 (mqN 29 3) ?_ rfl rfl (any_of HT_.out (by kernel_rfl)) (fun _ _ _ h => h) (Or.inl ⟨by rfl, ?_⟩) ?_ ?_ ?_; rotate_left
             ·intro w'; go_simp; with_reducible rfl
             rotate_left
             ·simp only [Act.put, setA, set0, setS, i64_w]; rfl
             refine pV 3 65 (mqN 29 4) ?_ rfl rfl (any_of HT_.out (by kernel_rfl)) (fun _ _ _ h => h) (Or.inl ⟨by rfl, ?_⟩) ?_ ?_ ?_; rotate_left
             ·intro w'; go_simp; with_reducible rfl
             rotate_left
             ·simp only [Act.put, setA, set0, setS, i64_w]; rfl
             refine pV 4 66 (mqN 29 5) ?_ rfl rfl (any_of HT_.out (by kernel_rfl)) (fun _ _ _ h => h) (Or.inl ⟨by rfl, ?_⟩) ?_ ?_ ?_; rotate_left
             ·intro w'; go_simp; with_reducible rfl
             rotate_left
             ·simp only [Act.put, setA, set0, setS, i64_w]; rfl
             refine pV 6 68 #[tt,tt,tt,tt,tt,ff,tt,ff,ff,ff,ff,ff,ff,ff,ff,ff,ff,ff,ff,ff,ff,ff,ff,ff,ff,ff,ff,ff,ff] ?_ rfl rfl (any_of HT_.out (by kernel_rfl)) (fun _ _ _ h => h) (Or.inl ⟨by rfl, ?_⟩) ?_ ?_ ?_; rotate_left
             ·intro w'; go_simp; with_reducible rfl
             rotate_left
             ·simp only [Act.put, setA, set0, setS, i64_w]; rfl
             refine take_ (i := 5) (N := some 67) (v := ?_) (a' := ?_) (mqN 29 7) rfl rfl (take_ofW HT_.out HW_.out (by kernel_rfl)) (fun _ _ _ h => h) (Or.inl ⟨by rfl, ?_⟩) hHeld ?_ ?_; rotate_left
             ·rintro w' ⟨s0, s1, s2, s3, s4, s5, s6, s7, s8, s9, s10, s11⟩
              go_simp; with_reducible rfl
             rotate_left
             ·simp only [Act.put, setA, set0, setS, i64_w]; rfl
             refine take_ (i := 7) (N := some 69) (v := ?_) (a' := ?_) (mqN 29 8) rfl rfl (take_ofW HT_.out HW_.out (by kernel_rfl)) (fun _ _ _ h => h) (Or.inl ⟨by rfl, ?_⟩) hHeld ?_ ?_; rotate_left
             ·rintro w' ⟨s0, s1, s2, s3, s4, s5, s6, s7, s8, s9, s10, s11⟩
              go_simp; with_reducible rfl
             rotate_left
             ·simp only [Act.put, setA, set0, setS, i64_w]; rfl
             refine pV 8 70 (mqN 29 9) ?_ rfl rfl (any_of HT_.out (by kernel_rfl)) (fun _ _ _ h => h) (Or.inl ⟨by rfl, ?_⟩) ?_ ?_ ?_; rotate_left
             ·intro w'; go_simp; with_reducible rfl
             rotate_left
             ·simp only [Act.put, setA, set0, setS, i64_w]; rfl
             refine pV 9 71 (mqN 29 10) ?_ rfl rfl (any_of HT_.out (by kernel_rfl)) (fun _ _ _ h => h) (Or.inl ⟨by rfl, ?_⟩) ?_ ?_ ?_; rotate_left
             ·intro w'; go_simp; with_reducible rfl
             rotate_left
             ·simp only [Act.put, setA, set0, setS, i64_w]; rfl
             refine one_ (i := 10) (N := some 72) (mqN 29 11) rfl rfl (one_of HT_.out (by kernel_rfl)) (by decide) (fun K hK => ?_); refine goes_ Try.func36 (by kernel_rfl) rfl #[.int .i64 ((rd_T100 l0_5 x58_2).f1), .int .i64 0, .int .i64 (wrap64 ((l0_2.length : Int) - 1))] (by rfl) rfl rfl (by (try simp only [List.map_toArray, List.map_cons, List.map_nil]); first | done | rfl | (simp only [List.length_drop, List.length_take]; rfl)) ?_; with_reducible refine (impl_within.calls ((rd_T100 l0_5 x58_2).f1) 0 (wrap64 ((l0_2.length : Int) - 1)) true _ A32.out).mono ?_
             rintro e w' ⟨rfl, ⟨nd, rfl⟩⟩
             refine ⟨_, rfl, ?_⟩; refine hK.out _ _ ⟨(blk_cell BK200.out 0).trans rfl, (blk_cell BK200.out 1).trans rfl, (blk_cell BK200.out 2).trans rfl, (blk_cell BK200.out 3).trans rfl, (blk_cell BK200.out 4).trans rfl, (blk_cell BK193.out 0).trans rfl, (blk_cell BK193.out 1).trans rfl, (blk_cell BK193.out 2).trans rfl, (blk_cell BK193.out 3).trans rfl, (blk_cell BK193.out 4).trans rfl, (blk_cell BK193.out 5).trans rfl, (blk_cell BK193.out 6).trans rfl⟩ (fun hHeld => ?_); clear hK K; refine norm_ (a' := ?_) ?_ ?_; rotate_left
             ·show Act.put _ (some 72) _ = _; simp only [Act.put, setA, set0, setS, i64_w]; rfl
             refine pV 11 73 (mqN 29 12) ?_ rfl rfl (any_of HT_.out (by kernel_rfl)) (fun _ _ _ h => h) (Or.inl ⟨by rfl, ?_⟩) ?_ ?_ ?_; rotate_left
             ·intro w'; go_simp; with_reducible rfl
             rotate_left
             ·simp only [Act.put, setA, set0, setS, i64_w]; rfl
             refine pV 12 74 (mqN 29 13) ?_ rfl rfl (any_of HT_.out (by kernel_rfl)) (fun _ _ _ h => h) (Or.inl ⟨by rfl, ?_⟩) ?_ ?_ ?_; rotate_left
             ·intro w'; go_simp; with_reducible rfl
             rotate_left
             ·simp only [Act.put, setA, set0, setS, i64_w]; rfl
             refine pV 13 75 (mqN 29 14) ?_ rfl rfl (any_of HT_.out (by kernel_rfl)) (fun _ _ _ h => h) (Or.inl ⟨by rfl, ?_⟩) ?_ ?_ ?_; rotate_left
             ·intro w'; go_simp; with_reducible rfl
             rotate_left
             ·simp only [Act.put, setA, set0, setS, i64_w]; rfl
             refine pV 14 76 (mqN 29 15) ?_ rfl rfl (any_of HT_.out (by kernel_rfl)) (fun _ _ _ h => h) (Or.inl ⟨by rfl, ?_⟩) ?_ ?_ ?_; rotate_left
             ·intro w'; go_simp; with_reducible rfl
             rotate_left
             ·simp only [Act.put, setA, set0, setS, i64_w]; rfl
             refine pV 16 78 #[tt,tt,tt,tt,tt,tt,tt,tt,tt,tt,tt,tt,tt,tt,tt,ff,tt,ff,ff,ff,ff,ff,ff,ff,ff,ff,ff,ff,ff] ?_ rfl rfl (any_of HT_.out (by kernel_rfl)) (fun _ _ _ h => h) (Or.inl ⟨by rfl, ?_⟩) ?_ ?_ ?_; rotate_left
             ·intro w'; go_simp; with_reducible rfl
             rotate_left
             ·simp only [Act.put, setA, set0, setS, i64_w]; rfl
             refine pV 18 80 #[tt,tt,tt,tt,tt,tt,tt,tt,tt,tt,tt,tt,tt,tt,tt,ff,tt,ff,tt,ff,ff,ff,ff,ff,ff,ff,ff,ff,ff] ?_ rfl rfl (any_of HT_.out (by kernel_rfl)) (fun _ _ _ h => h) (Or.inl ⟨by rfl, ?_⟩) ?_ ?_ ?_; rotate_left
             ·intro w'; go_simp; with_reducible rfl
             rotate_left
             ·simp only [Act.put, setA, set0, setS, i64_w]; rfl
             refine take_ (i := 15) (N := some 77) (v := ?_) (a' := ?_) #[tt,tt,tt,tt,tt,tt,tt,tt,tt,tt,tt,tt,tt,tt,tt,tt,tt,ff,tt,ff,ff,ff,ff,ff,ff,ff,ff,ff,ff] rfl rfl (take_ofW HT_.out HW_.out (by kernel_rfl)) (fun _ _ _ h => h) (Or.inl ⟨by rfl, ?_⟩) hHeld ?_ ?_; rotate_left
             ·rintro w' ⟨s0, s1, s2, s3, s4, s5, s6, s7, s8, s9, s10, s11⟩
              go_simp; with_reducible rfl
             rotate_left
             ·simp only [Act.put, setA, set0, setS, i64_w]; rfl
             refine take_ (i := 17) (N := some 79) (v := ?_) (a' := ?_) (mqN 29 19) rfl rfl (take_ofW HT_.out HW_.out (by kernel_rfl)) (fun _ _ _ h => h) (Or.inl ⟨by rfl, ?_⟩) hHeld ?_ ?_; rotate_left
             ·rintro w' ⟨s0, s1, s2, s3, s4, s5, s6, s7, s8, s9, s10, s11⟩
              go_simp; with_reducible rfl
             rotate_left
             ·simp only [Act.put, setA, set0, setS, i64_w]; rfl
             refine take_ (i := 19) (N := some 81) (v := ?_) (a' := ?_) (mqN 29 20) rfl rfl (take_ofW HT_.out HW_.out (by kernel_rfl)) (fun _ _ _ h => h) (Or.inl ⟨by rfl, ?_⟩) hHeld ?_ ?_; rotate_left
             ·rintro w' ⟨s0, s1, s2, s3, s4, s5, s6, s7, s8, s9, s10, s11⟩
              go_simp; with_reducible rfl
             rotate_left
             ·simp only [Act.put, setA, set0, setS, i64_w]; rfl
             refine one_ (i := 20) (N := some 82) (mqN 29 21) rfl rfl (one_of HT_.out (by kernel_rfl)) (by decide) (fun K hK => ?_); refine goes_ Try.func84 (by kernel_rfl) rfl #[.string a0_0, .int .i64 ((rd_T100 l0_5 x58_2).f1)] (by rfl) rfl rfl (by (try simp only [List.map_toArray, List.map_cons, List.map_nil]); first | done | rfl | (simp only [List.length_drop, List.length_take]; rfl)) ?_; with_reducible refine (impl_segment.calls a0_0 ((rd_T100 l0_5 x58_2).f1) t202 _ A34.out).mono ?_
             rintro e w42 ⟨rfl, hb⟩
             refine ⟨_, rfl, ?_⟩; replace BK193 := ba_ BK193 hb; replace BK200 := ba_ BK200 hb; replace HB := hb_ HB hb; (try clear hb); (try clear hb2); (try clear hk); (try clear hi); refine hK.out _ _ ⟨(blk_cell BK200.out 0).trans rfl, (blk_cell BK200.out 1).trans rfl, (blk_cell BK200.out 2).trans rfl, (blk_cell BK200.out 3).trans rfl, (blk_cell BK200.out 4).trans rfl, (blk_cell BK193.out 0).trans rfl, (blk_cell BK193.out 1).trans rfl, (blk_cell BK193.out 2).trans rfl, (blk_cell BK193.out 3).trans rfl, (blk_cell BK193.out 4).trans rfl, (blk_cell BK193.out 5).trans rfl, (blk_cell BK193.out 6).trans rfl⟩ (fun hHeld => ?_); clear hK K; refine norm_ (a' := ?_) ?_ ?_; rotate_left
             ·show Act.put _ (some 82) _ = _; simp only [Act.put, setA, set0, setS, i64_w]; rfl
             refine pV 21 83 (mqN 29 22) ?_ rfl rfl (any_of HT_.out (by kernel_rfl)) (fun _ _ _ h => h) (Or.inl ⟨by rfl, ?_⟩) ?_ ?_ ?_; rotate_left
             ·intro w'; go_simp; with_reducible rfl
             rotate_left
             ·simp only [Act.put, setA, set0, setS, i64_w]; rfl
             refine pV 22 84 (mqN 29 23) ?_ rfl rfl (any_of HT_.out (by kernel_rfl)) (fun _ _ _ h => h) (Or.inl ⟨by rfl, ?_⟩) ?_ ?_ ?_; rotate_left
             ·intro w'; go_simp; with_reducible rfl
             rotate_left
             ·simp only [Act.put, setA, set0, setS, i64_w]; rfl
             refine pV 23 85 (mqN 29 24) ?_ rfl rfl (any_of HT_.out (by kernel_rfl)) (fun _ _ _ h => h) (Or.inl ⟨by rfl, ?_⟩) ?_ ?_ ?_; rotate_left
             ·intro w'; go_simp; with_reducible rfl
             rotate_left
             ·simp only [Act.put, setA, set0, setS, i64_w]; rfl
             refine pV 24 86 (mqN 29 25) ?_ rfl rfl (any_of HT_.out (by kernel_rfl)) (fun _ _ _ h => h) (Or.inl ⟨by rfl, ?_⟩) ?_ ?_ ?_; rotate_left
             ·intro w'; go_simp; with_reducible rfl
             rotate_left
             ·simp only [Act.put, setA, set0, setS, i64_w]; rfl
             refine take_ (i := 25) (N := some 87) (v := ?_) (a' := ?_) (mqN 29 26) rfl rfl (take_ofW HT_.out HW_.out (by kernel_rfl)) (fun _ _ _ h => h) (Or.inl ⟨by rfl, ?_⟩) hHeld ?_ ?_; rotate_left
             ·rintro w' ⟨s0, s1, s2, s3, s4, s5, s6, s7, s8, s9, s10, s11⟩
              go_simp; with_reducible rfl
             rotate_left
             ·simp only [Act.put, setA, set0, setS, i64_w]; rfl
             refine pV 26 88 (mqN 29 27) ?_ rfl rfl (any_of HT_.out (by kernel_rfl)) (fun _ _ _ h => h) (Or.inl ⟨by rfl, ?_⟩) ?_ ?_ ?_; rotate_left
             ·intro w'; go_simp; with_reducible rfl
             rotate_left
             ·simp only [Act.put, setA, set0, setS, i64_w]; rfl
             refine pV 27 89 (mqN 29 28) ?_ rfl rfl (any_of HT_.out (by kernel_rfl)) (fun _ _ _ h => h) (Or.inl ⟨by rfl, ?_⟩) ?_ ?_ ?_; rotate_left
             ·intro w'; go_simp; with_reducible rfl
             rotate_left
             ·simp only [Act.put, setA, set0, setS, i64_w]; rfl
             refine pV 28 90 (mqN 29 29) ?_ rfl rfl (any_of HT_.out (by kernel_rfl)) (fun _ _ _ h => h) (Or.inl ⟨by rfl, ?_⟩) ?_ ?_ ?_; rotate_left
             ·intro w'; go_simp; with_reducible rfl
             rotate_left
             ·simp only [Act.put, setA, set0, setS, i64_w]; rfl
             refine done_ (done_of HT_.out (by kernel_rfl)) ?_; try go_wp2
             go_roundg k2
             case measure => have := HJ1.out; have := HK2.out; omega
             case rel => exact ⟨(wrap64 (x58_2 + 1)), (by first | rfl | (simp; done) | (simp [*]; done)), H', ⟨by have := HJ1.out; have := HK2.out; omega⟩, ⟨by (with_reducible repeat (first | refine blk_drewN ?_ _ | refine blk_drew ?_ | refine blk_alloc ?_ _)); exact BK193.out⟩, ⟨by repeat (first | (with_reducible first | exact HB.out | apply below_alloc | apply pw_below_drewN | apply below_drew1 | refine below_set ?_ GE193.out | refine below_set ?_ GE200.out) | exact HB.out | (with_reducible exact Below.refl _ _))⟩⟩
            ·rw [if_neg c36] at H; have c36b0 : ((((rd_T100 l0_5 x58_2).f4).length : Int) == 0) = false := beq_eq_false_iff_ne.mpr c36; have c36b1 : ((((rd_T100 l0_5 x58_2).f4).length : Int) != 0) = true := bne_iff_ne.mpr c36; have c36b2 : ¬ (((rd_T100 l0_5 x58_2).f4) = []) := fun h_ => c36 (by rw [h_]; rfl)
             obtain rfl := Option.some.inj H; have p199 : 0 ≤ (x58_2 : Int) := of_decide_eq_true (by first | (with_reducible assumption) | assumption); have q199 : x58_2 < (l0_5.length : Int) := of_decide_eq_true (by first | (with_reducible assumption) | assumption); obtain ⟨ad199, A199_4, c199_4, e199, hx199_0, hx199_1, hx199_2, hx199_3, hx199_4, hl199_4, hi199_4⟩ := at_T100 HR0_5.out x58_2 p199 q199; cases e199; replace hx199_0 := (HB.out.cell (World.block_lt_of_cell? w _ hx199_0)).trans hx199_0; replace hx199_1 := (HB.out.cell (World.block_lt_of_cell? w _ hx199_1)).trans hx199_1; replace hx199_2 := (HB.out.cell (World.block_lt_of_cell? w _ hx199_2)).trans hx199_2; replace hx199_3 := (HB.out.cell (World.block_lt_of_cell? w _ hx199_3)).trans hx199_3; replace hx199_4 := (HB.out.cell (World.block_lt_of_cell? w _ hx199_4)).trans hx199_4; have HR199_4 := Aside0.mk hi199_4; have HC199_4 := Aside0.mk hl199_4; clear hi199_4 hl199_4; replace p199 := eq_true p199; replace q199 := eq_true q199; try go_wp2_with (first | ((with_reducible refine gate_dst (N := 4) rfl ?_); (try (refine gate_guard (by rfl) ?_; dsimp only)); refine box_event ?hg (N := 4) ?hd (cs := #[.int .i64 0, .int .i64 0, .string (⟨#[]⟩ : ByteArray), .bool false, .slice none 0 0]) (t := 100) ?hr ?_; (case hd => rfl); (case hg => rfl); (case hr => first | (go_simp; done) | (go_simp; rfl)); intro gb200 hg w43 hbox hb; have BK200 := Aside0.mk (hbox); have GW200 := ge_ HB hg; have GE200 := ge_ HB hg; replace HB := hb_ HB hb; have NB193_200 := nl_ BK193 hg; have NB200_193 := ng_ BK193 hg; replace BK193 := ba_ BK193 hb; clear hb hbox hg; have hnb44 := NB200_193.out; have hnc44 := NB193_200.out; obtain ⟨hcz45_0, hcz45_1, hcz45_2, hcz45_3, hcz45_4, hfz45_0, hfz45_1, hfz45_2, hfz45_3, hfz45_4⟩ := cf5 BK200.out))
             have n0_ : Aside0 ((((((w43.setCell ⟨gb200, 0, none⟩ (.int .i64 ((rd_T100 l0_5 x58_2).f0))).setCell ⟨gb200, 1, none⟩ (.int .i64 ((rd_T100 l0_5 x58_2).f1))).setCell ⟨gb200, 2, none⟩ (.string ((rd_T100 l0_5 x58_2).f2))).setCell ⟨gb200, 3, none⟩ (.bool ((rd_T100 l0_5 x58_2).f3))).setCell ⟨gb200, 4, none⟩ (.slice A199_4 ((rd_T100 l0_5 x58_2).f4).length c199_4)).heap[gb193]? = some (.cells #[.string a0_0, .slice A0_1 l0_1.length c0_1, .slice A0_2 l0_2.length c0_2, .string a0_3, .bool a0_4, .slice (some ad199) l0_5.length c0_5, .slice A0_6 l0_6.length c0_6] 48 (0, 0))) := ⟨by (with_reducible repeat (first | refine blk_drewN ?_ _ | refine blk_drew ?_ | refine blk_alloc ?_ _)); (iterate 5 refine blk_far ?_ NB193_200.out _); (with_reducible repeat (first | refine blk_drewN ?_ _ | refine blk_drew ?_ | refine blk_alloc ?_ _)); exact BK193.out⟩
             have n1_ : Aside0 ((((((w43.setCell ⟨gb200, 0, none⟩ (.int .i64 ((rd_T100 l0_5 x58_2).f0))).setCell ⟨gb200, 1, none⟩ (.int .i64 ((rd_T100 l0_5 x58_2).f1))).setCell ⟨gb200, 2, none⟩ (.string ((rd_T100 l0_5 x58_2).f2))).setCell ⟨gb200, 3, none⟩ (.bool ((rd_T100 l0_5 x58_2).f3))).setCell ⟨gb200, 4, none⟩ (.slice A199_4 ((rd_T100 l0_5 x58_2).f4).length c199_4)).heap[gb200]? = some (.cells #[.int .i64 ((rd_T100 l0_5 x58_2).f0), .int .i64 ((rd_T100 l0_5 x58_2).f1), .string ((rd_T100 l0_5 x58_2).f2), .bool ((rd_T100 l0_5 x58_2).f3), .slice A199_4 ((rd_T100 l0_5 x58_2).f4).length c199_4] 100 (0, 0))) := ⟨by (with_reducible repeat (first | refine blk_drewN ?_ _ | refine blk_drew ?_ | refine blk_alloc ?_ _)); exact bp5 BK200.out⟩
             have n2_ : Aside0 (Below w.heap.size w (((((w43.setCell ⟨gb200, 0, none⟩ (.int .i64 ((rd_T100 l0_5 x58_2).f0))).setCell ⟨gb200, 1, none⟩ (.int .i64 ((rd_T100 l0_5 x58_2).f1))).setCell ⟨gb200, 2, none⟩ (.string ((rd_T100 l0_5 x58_2).f2))).setCell ⟨gb200, 3, none⟩ (.bool ((rd_T100 l0_5 x58_2).f3))).setCell ⟨gb200, 4, none⟩ (.slice A199_4 ((rd_T100 l0_5 x58_2).f4).length c199_4))) := ⟨by repeat (first | (with_reducible first | exact HB.out | apply below_alloc | apply pw_below_drewN | apply below_drew1 | refine below_set ?_ GE193.out | refine below_set ?_ GE200.out) | exact HB.out | (with_reducible exact Below.refl _ _))⟩
             (try clear BK193); (try clear BK200); (try clear HB); generalize (((((w43.setCell ⟨gb200, 0, none⟩ (.int .i64 ((rd_T100 l0_5 x58_2).f0))).setCell ⟨gb200, 1, none⟩ (.int .i64 ((rd_T100 l0_5 x58_2).f1))).setCell ⟨gb200, 2, none⟩ (.string ((rd_T100 l0_5 x58_2).f2))).setCell ⟨gb200, 3, none⟩ (.bool ((rd_T100 l0_5 x58_2).f3))).setCell ⟨gb200, 4, none⟩ (.slice A199_4 ((rd_T100 l0_5 x58_2).f4).length c199_4)) = w46 at n0_ n1_ n2_ ⊢; have BK193 := n0_; have BK200 := n1_; have HB := n2_; clear n0_ n1_ n2_; replace BK193 := Aside0.mk (blk_drew BK193.out); replace BK200 := Aside0.mk (blk_drew BK200.out); replace HB := Aside0.mk (below_drew1 HB.out); refine start_ (n := 29) (S := fun w' => w'.cell? ⟨gb200, 0, none⟩ = some (.int .i64 ((rd_T100 l0_5 x58_2).f0)) ∧ w'.cell? ⟨gb200, 1, none⟩ = some (.int .i64 ((rd_T100 l0_5 x58_2).f1)) ∧ w'.cell? ⟨gb200, 2, none⟩ = some (.string ((rd_T100 l0_5 x58_2).f2)) ∧ w'.cell? ⟨gb200, 3, none⟩ = some (.bool ((rd_T100 l0_5 x58_2).f3)) ∧ w'.cell? ⟨gb200, 4, none⟩ = some (.slice A199_4 ((rd_T100 l0_5 x58_2).f4).length c199_4) ∧ w'.cell? ⟨gb193, 0, none⟩ = some (.string a0_0) ∧ w'.cell? ⟨gb193, 1, none⟩ = some (.slice A0_1 l0_1.length c0_1) ∧ w'.cell? ⟨gb193, 2, none⟩ = some (.slice A0_2 l0_2.length c0_2) ∧ w'.cell? ⟨gb193, 3, none⟩ = some (.string a0_3) ∧ w'.cell? ⟨gb193, 4, none⟩ = some (.bool a0_4) ∧ w'.cell? ⟨gb193, 5, none⟩ = some (.slice (some ad199) l0_5.length c0_5) ∧ w'.cell? ⟨gb193, 6, none⟩ = some (.slice A0_6 l0_6.length c0_6)) (ds := []) (mqN 29 0) (by kernel_rfl) rfl rfl ⟨(blk_cell BK200.out 0).trans rfl, (blk_cell BK200.out 1).trans rfl, (blk_cell BK200.out 2).trans rfl, (blk_cell BK200.out 3).trans rfl, (blk_cell BK200.out 4).trans rfl, (blk_cell BK193.out 0).trans rfl, (blk_cell BK193.out 1).trans rfl, (blk_cell BK193.out 2).trans rfl, (blk_cell BK193.out 3).trans rfl, (blk_cell BK193.out 4).trans rfl, (blk_cell BK193.out 5).trans rfl, (blk_cell BK193.out 6).trans rfl⟩ (fun hHeld => ?_); refine with_tabW impl_GoodSession.tab6 impl_GoodSession.bits6 (fun HT_ HW_ => ?_); generalize w46.drew = w47 at BK193 BK200 HB hHeld ⊢; refine pV 0 62 (mqN 29 1) ?_ rfl rfl (any_of HT_.out (by kernel_rfl)) (fun _ _ _ h => h) (Or.inl ⟨by rfl, ?_⟩) ?_ ?_ ?_; rotate_left
             ·intro w'; go_simp; with_reducible rfl
             rotate_left
             ·simp only [Act.put, setA, set0, setS, i64_w]; rfl
             refine take_ (i := 1) (N := some 63) (v := ?_) (a' := ?_) (mqN 29 2) rfl rfl (take_ofW HT_.out HW_.out (by kernel_rfl)) (fun _ _ _ h => h) (Or.inl ⟨by rfl, ?_⟩) hHeld ?_ ?_; rotate_left
             ·rintro w' ⟨s0, s1, s2, s3, s4, s5, s6, s7, s8, s9, s10, s11⟩
              go_simp; with_reducible rfl
             rotate_left
             ·simp only [Act.put, setA, set0, setS, i64_w]; rfl
             refine pV 2 64 (mqN 29 3) ?_ rfl rfl (any_of HT_.out (by kernel_rfl)) (fun _ _ _ h => h) (Or.inl ⟨by rfl, ?_⟩) ?_ ?_ ?_; rotate_left
             ·intro w'; go_simp; with_reducible rfl
             rotate_left
             ·simp only [Act.put, setA, set0, setS, i64_w]; rfl
             refine pV 3 65 (mqN 29 4) ?_ rfl rfl (any_of HT_.out (by kernel_rfl)) (fun _ _ _ h => h) (Or.inl ⟨by rfl, ?_⟩) ?_ ?_ ?_; rotate_left
             ·intro w'; go_simp; with_reducible rfl
             rotate_left
             ·simp only [Act.put, setA, set0, setS, i64_w]; rfl
             refine pV 4 66 (mqN 29 5) ?_ rfl rfl (any_of HT_.out (by kernel_rfl)) (fun _ _ _ h => h) (Or.inl ⟨by rfl, ?_⟩) ?_ ?_ ?_; rotate_left
             ·intro w'; go_simp; with_reducible rfl
             rotate_left
             ·simp only [Act.put, setA, set0, setS, i64_w]; rfl
             refine pV 6 68 #[tt,tt,tt,tt,tt,ff,tt,ff,ff,ff,ff,ff,ff,ff,ff,ff,ff,ff,ff,ff,ff,ff,ff,ff,ff,ff,ff,ff,ff] ?_ rfl rfl (any_of HT_.out (by kernel_rfl)) (fun _ _ _ h => h) (Or.inl ⟨by rfl, ?_⟩) ?_ ?_ ?_; rotate_left
             ·intro w'; go_simp; with_reducible rfl
             rotate_left
             ·simp only [Act.put, setA, set0, setS, i64_w]; rfl
             refine take_ (i := 5) (N := some 67) (v := ?_) (a' := ?_) (mqN 29 7) rfl rfl (take_ofW HT_.out HW_.out (by kernel_rfl)) (fun _ _ _ h => h) (Or.inl ⟨by rfl, ?_⟩) hHeld ?_ ?_; rotate_left
             ·rintro w' ⟨s0, s1, s2, s3, s4, s5, s6, s7, s8, s9, s10, s11⟩
              go_simp; with_reducible rfl
             rotate_left
             ·simp only [Act.put, setA, set0, setS, i64_w]; rfl
             refine take_ (i := 7) (N := some 69) (v := ?_) (a' := ?_) (mqN 29 8) rfl rfl (take_ofW HT_.out HW_.out (by kernel_rfl)) (fun _ _ _ h => h) (Or.inl ⟨by rfl, ?_⟩) hHeld ?_ ?_; rotate_left
             ·rintro w' ⟨s0, s1, s2, s3, s4, s5, s6, s7, s8, s9, s10, s11⟩
              go_simp; with_reducible rfl
             rotate_left
             ·simp only [Act.put, setA, set0, setS, i64_w]; rfl
             refine pV 8 70 (mqN 29 9) ?_ rfl rfl (any_of HT_.out (by kernel_rfl)) (fun _ _ _ h => h) (Or.inl ⟨by rfl, ?_⟩) ?_ ?_ ?_; rotate_left
             ·intro w'; go_simp; with_reducible rfl
             rotate_left
             ·simp only [Act.put, setA, set0, setS, i64_w]; rfl
             refine pV 9 71 (mqN 29 10) ?_ rfl rfl (any_of HT_.out (by kernel_rfl)) (fun _ _ _ h => h) (Or.inl ⟨by rfl, ?_⟩) ?_ ?_ ?_; rotate_left
             ·intro w'; go_simp; with_reducible rfl
             rotate_left
             ·simp only [Act.put, setA, set0, setS, i64_w]; rfl
             refine one_ (i := 10) (N := some 72) (mqN 29 11) rfl rfl (one_of HT_.out (by kernel_rfl)) (by decide) (fun K hK => ?_); refine goes_ Try.func36 (by kernel_rfl) rfl #[.int .i64 ((rd_T100 l0_5 x58_2).f1), .int .i64 0, .int .i64 (wrap64 ((l0_2.length : Int) - 1))] (by rfl) rfl rfl (by (try simp only [List.map_toArray, List.map_cons, List.map_nil]); first | done | rfl | (simp only [List.length_drop, List.length_take]; rfl)) ?_; with_reducible refine (impl_within.calls ((rd_T100 l0_5 x58_2).f1) 0 (wrap64 ((l0_2.length : Int) - 1)) true _ A32.out).mono ?_
             rintro e w' ⟨rfl, ⟨nd, rfl⟩⟩
             refine ⟨_, rfl, ?_⟩; refine hK.out _ _ ⟨(blk_cell BK200.out 0).trans rfl, (blk_cell BK200.out 1).trans rfl, (blk_cell BK200.out 2).trans rfl, (blk_cell BK200.out 3).trans rfl, (blk_cell BK200.out 4).trans rfl, (blk_cell BK193.out 0).trans rfl, (blk_cell BK193.out 1).trans rfl, (blk_cell BK193.out 2).trans rfl, (blk_cell BK193.out 3).trans rfl, (blk_cell BK193.out 4).trans rfl, (blk_cell BK193.out 5).trans rfl, (blk_cell BK193.out 6).trans rfl⟩ (fun hHeld => ?_); clear hK K; refine norm_ (a' := ?_) ?_ ?_; rotate_left
             ·show Act.put _ (some 72) _ = _; simp only [Act.put, setA, set0, setS, i64_w]; rfl
             refine pV 11 73 (mqN 29 12) ?_ rfl rfl (any_of HT_.out (by kernel_rfl)) (fun _ _ _ h => h) (Or.inl ⟨by rfl, ?_⟩) ?_ ?_ ?_; rotate_left
             ·intro w'; go_simp; with_reducible rfl
             rotate_left
             ·simp only [Act.put, setA, set0, setS, i64_w]; rfl
             refine pV 12 74 (mqN 29 13) ?_ rfl rfl (any_of HT_.out (by kernel_rfl)) (fun _ _ _ h => h) (Or.inl ⟨by rfl, ?_⟩) ?_ ?_ ?_; rotate_left
             ·intro w'; go_simp; with_reducible rfl
             rotate_left
             ·simp only [Act.put, setA, set0, setS, i64_w]; rfl
             refine pV 13 75 (mqN 29 14) ?_ rfl rfl (any_of HT_.out (by kernel_rfl)) (fun _ _ _ h => h) (Or.inl ⟨by rfl, ?_⟩) ?_ ?_ ?_; rotate_left
             ·intro w'; go_simp; with_reducible rfl
             rotate_left
             ·simp only [Act.put, setA, set0, setS, i64_w]; rfl
             refine pV 14 76 (mqN 29 15) ?_ rfl rfl (any_of HT_.out (by kernel_rfl)) (fun _ _ _ h => h) (Or.inl ⟨by rfl, ?_⟩) ?_ ?_ ?_; rotate_left
             ·intro w'; go_simp; with_reducible rfl
             rotate_left
             ·simp only [Act.put, setA, set0, setS, i64_w]; rfl
             refine pV 16 78 #[tt,tt,tt,tt,tt,tt,tt,tt,tt,tt,tt,tt,tt,tt,tt,ff,tt,ff,ff,ff,ff,ff,ff,ff,ff,ff,ff,ff,ff] ?_ rfl rfl (any_of HT_.out (by kernel_rfl)) (fun _ _ _ h => h) (Or.inl ⟨by rfl, ?_⟩) ?_ ?_ ?_; rotate_left
             ·intro w'; go_simp; with_reducible rfl
             rotate_left
             ·simp only [Act.put, setA, set0, setS, i64_w]; rfl
             refine pV 18 80 #[tt,tt,tt,tt,tt,tt,tt,tt,tt,tt,tt,tt,tt,tt,tt,ff,tt,ff,tt,ff,ff,ff,ff,ff,ff,ff,ff,ff,ff] ?_ rfl rfl (any_of HT_.out (by kernel_rfl)) (fun _ _ _ h => h) (Or.inl ⟨by rfl, ?_⟩) ?_ ?_ ?_; rotate_left
             ·intro w'; go_simp; with_reducible rfl
             rotate_left
             ·simp only [Act.put, setA, set0, setS, i64_w]; rfl
             refine take_ (i := 15) (N := some 77) (v := ?_) (a' := ?_) #[tt,tt,tt,tt,tt,tt,tt,tt,tt,tt,tt,tt,tt,tt,tt,tt,tt,ff,tt,ff,ff,ff,ff,ff,ff,ff,ff,ff,ff] rfl rfl (take_ofW HT_.out HW_.out (by kernel_rfl)) (fun _ _ _ h => h) (Or.inl ⟨by rfl, ?_⟩) hHeld ?_ ?_; rotate_left
             ·rintro w' ⟨s0, s1, s2, s3, s4, s5, s6, s7, s8, s9, s10, s11⟩
              go_simp; with_reducible rfl
             rotate_left
             ·simp only [Act.put, setA, set0, setS, i64_w]; rfl
             refine take_ (i := 17) (N := some 79) (v := ?_) (a' := ?_) (mqN 29 19) rfl rfl (take_ofW HT_.out HW_.out (by kernel_rfl)) (fun _ _ _ h => h) (Or.inl ⟨by rfl, ?_⟩) hHeld ?_ ?_; rotate_left
             ·rintro w' ⟨s0, s1, s2, s3, s4, s5, s6, s7, s8, s9, s10, s11⟩
              go_simp; with_reducible rfl
             rotate_left
             ·simp only [Act.put, setA, set0, setS, i64_w]; rfl
             refine take_ (i := 19) (N := some 81) (v := ?_) (a' := ?_) (mqN 29 20) rfl rfl (take_ofW HT_.out HW_.out (by kernel_rfl)) (fun _ _ _ h => h) (Or.inl ⟨by rfl, ?_⟩) hHeld ?_ ?_; rotate_left
             ·rintro w' ⟨s0, s1, s2, s3, s4, s5, s6, s7, s8, s9, s10, s11⟩
              go_simp; with_reducible rfl
             rotate_left
             ·simp only [Act.put, setA, set0, setS, i64_w]; rfl
             refine one_ (i := 20) (N := some 82) (mqN 29 21) rfl rfl (one_of HT_.out (by kernel_rfl)) (by decide) (fun K hK => ?_); refine goes_ Try.func84 (by kernel_rfl) rfl #[.string a0_0, .int .i64 ((rd_T100 l0_5 x58_2).f1)] (by rfl) rfl rfl (by (try simp only [List.map_toArray, List.map_cons, List.map_nil]); first | done | rfl | (simp only [List.length_drop, List.length_take]; rfl)) ?_; with_reducible refine (impl_segment.calls a0_0 ((rd_T100 l0_5 x58_2).f1) t202 _ A34.out).mono ?_
             rintro e w48 ⟨rfl, hb⟩
             refine ⟨_, rfl, ?_⟩; replace BK193 := ba_ BK193 hb; replace BK200 := ba_ BK200 hb; replace HB := hb_ HB hb; (try clear hb); (try clear hb2); (try clear hk); (try clear hi); refine hK.out _ _ ⟨(blk_cell BK200.out 0).trans rfl, (blk_cell BK200.out 1).trans rfl, (blk_cell BK200.out 2).trans rfl, (blk_cell BK200.out 3).trans rfl, (blk_cell BK200.out 4).trans rfl, (blk_cell BK193.out 0).trans rfl, (blk_cell BK193.out 1).trans rfl, (blk_cell BK193.out 2).trans rfl, (blk_cell BK193.out 3).trans rfl, (blk_cell BK193.out 4).trans rfl, (blk_cell BK193.out 5).trans rfl, (blk_cell BK193.out 6).trans rfl⟩ (fun hHeld => ?_); clear hK K; refine norm_ (a' := ?_) ?_ ?_; rotate_left
             ·show Act.put _ (some 82) _ = _; simp only [Act.put, setA, set0, setS, i64_w]; rfl
             refine pV 21 83 (mqN 29 22) ?_ rfl rfl (any_of HT_.out (by kernel_rfl)) (fun _ _ _ h => h) (Or.inl ⟨by rfl, ?_⟩) ?_ ?_ ?_; rotate_left
             ·intro w'; go_simp; with_reducible rfl
             rotate_left
             ·simp only [Act.put, setA, set0, setS, i64_w]; rfl
             refine pV 22 84 (mqN 29 23) ?_ rfl rfl (any_of HT_.out (by kernel_rfl)) (fun _ _ _ h => h) (Or.inl ⟨by rfl, ?_⟩) ?_ ?_ ?_; rotate_left
             ·intro w'; go_simp; with_reducible rfl
             rotate_left
             ·simp only [Act.put, setA, set0, setS, i64_w]; rfl
             refine pV 23 85 (mqN 29 24) ?_ rfl rfl (any_of HT_.out (by kernel_rfl)) (fun _ _ _ h => h) (Or.inl ⟨by rfl, ?_⟩) ?_ ?_ ?_; rotate_left
             ·intro w'; go_simp; with_reducible rfl
             rotate_left
             ·simp only [Act.put, setA, set0, setS, i64_w]; rfl
             refine pV 24 86 (mqN 29 25) ?_ rfl rfl (any_of HT_.out (by kernel_rfl)) (fun _ _ _ h => h) (Or.inl ⟨by rfl, ?_⟩) ?_ ?_ ?_; rotate_left
             ·intro w'; go_simp; with_reducible rfl
             rotate_left
             ·simp only [Act.put, setA, set0, setS, i64_w]; rfl
             refine take_ (i := 25) (N := some 87) (v := ?_) (a' := ?_) (mqN 29 26) rfl rfl (take_ofW HT_.out HW_.out (by kernel_rfl)) (fun _ _ _ h => h) (Or.inl ⟨by rfl, ?_⟩) hHeld ?_ ?_; rotate_left
             ·rintro w' ⟨s0, s1, s2, s3, s4, s5, s6, s7, s8, s9, s10, s11⟩
              go_simp; with_reducible rfl
             rotate_left
             ·simp only [Act.put, setA, set0, setS, i64_w]; rfl
             refine pV 26 88 (mqN 29 27) ?_ rfl rfl (any_of HT_.out (by kernel_rfl)) (fun _ _ _ h => h) (Or.inl ⟨by rfl, ?_⟩) ?_ ?_ ?_; rotate_left
             ·intro w'; go_simp; with_reducible rfl
             rotate_left
             ·simp only [Act.put, setA, set0, setS, i64_w]; rfl
             refine pV 27 89 (mqN 29 28) ?_ rfl rfl (any_of HT_.out (by kernel_rfl)) (fun _ _ _ h => h) (Or.inl ⟨by rfl, ?_⟩) ?_ ?_ ?_; rotate_left
             ·intro w'; go_simp; with_reducible rfl
             rotate_left
             ·simp only [Act.put, setA, set0, setS, i64_w]; rfl
             refine pV 28 90 (mqN 29 29) ?_ rfl rfl (any_of HT_.out (by kernel_rfl)) (fun _ _ _ h => h) (Or.inl ⟨by rfl, ?_⟩) ?_ ?_ ?_; rotate_left
             ·intro w'; go_simp; with_reducible rfl
             rotate_left
             ·simp only [Act.put, setA, set0, setS, i64_w]; rfl
             refine done_ (done_of HT_.out (by kernel_rfl)) ?_; try go_wp2
             go_ret; exact ⟨by first | rfl | (simp [errW_none, errW_some] <;> rfl) | (simp [*, errW_none, errW_some] <;> rfl), by repeat (first | (with_reducible first | exact HB.out | apply below_alloc | apply pw_below_drewN | apply below_drew1 | refine below_set ?_ GE193.out | refine below_set ?_ GE200.out) | exact HB.out | (with_reducible exact Below.refl _ _))⟩
           ·rw [if_neg c35] at H; have c35b0 : (((rd_T100 l0_5 x58_2).f2).toList == t202.toList) = false := beq_eq_false_iff_ne.mpr c35; have c35b1 : (((rd_T100 l0_5 x58_2).f2).toList != t202.toList) = true := bne_iff_ne.mpr c35; obtain rfl := Option.some.inj H; have p199 : 0 ≤ (x58_2 : Int) := of_decide_eq_true (by first | (with_reducible assumption) | assumption); have q199 : x58_2 < (l0_5.length : Int) := of_decide_eq_true (by first | (with_reducible assumption) | assumption); obtain ⟨ad199, A199_4, c199_4, e199, hx199_0, hx199_1, hx199_2, hx199_3, hx199_4, hl199_4, hi199_4⟩ := at_T100 HR0_5.out x58_2 p199 q199; cases e199; replace hx199_0 := (HB.out.cell (World.block_lt_of_cell? w _ hx199_0)).trans hx199_0; replace hx199_1 := (HB.out.cell (World.block_lt_of_cell? w _ hx199_1)).trans hx199_1; replace hx199_2 := (HB.out.cell (World.block_lt_of_cell? w _ hx199_2)).trans hx199_2; replace hx199_3 := (HB.out.cell (World.block_lt_of_cell? w _ hx199_3)).trans hx199_3; replace hx199_4 := (HB.out.cell (World.block_lt_of_cell? w _ hx199_4)).trans hx199_4; have HR199_4 := Aside0.mk hi199_4; have HC199_4 := Aside0.mk hl199_4; clear hi199_4 hl199_4; replace p199 := eq_true p199; replace q199 := eq_true q199; try go_wp2_with (first | ((with_reducible refine gate_dst (N := 4) rfl ?_); (try (refine gate_guard (by rfl) ?_; dsimp only)); refine box_event ?hg (N := 4) ?hd (cs := #[.int .i64 0, .int .i64 0, .string (⟨#[]⟩ : ByteArray), .bool false, .slice none 0 0]) (t := 100) ?hr ?_; (case hd => rfl); (case hg => rfl); (case hr => first | (go_simp; done) | (go_simp; rfl)); intro gb200 hg w49 hbox hb; have BK200 := Aside0.mk (hbox); have GW200 := ge_ HB hg; have GE200 := ge_ HB hg; replace HB := hb_ HB hb; have NB193_200 := nl_ BK193 hg; have NB200_193 := ng_ BK193 hg; replace BK193 := ba_ BK193 hb; clear hb hbox hg; have hnb50 := NB200_193.out; have hnc50 := NB193_200.out; obtain ⟨hcz51_0, hcz51_1, hcz51_2, hcz51_3, hcz51_4, hfz51_0, hfz51_1, hfz51_2, hfz51_3, hfz51_4⟩ := cf5 BK200.out))
            have n0_ : Aside0 ((((((w49.setCell ⟨gb200, 0, none⟩ (.int .i64 ((rd_T100 l0_5 x58_2).f0))).setCell ⟨gb200, 1, none⟩ (.int .i64 ((rd_T100 l0_5 x58_2).f1))).setCell ⟨gb200, 2, none⟩ (.string ((rd_T100 l0_5 x58_2).f2))).setCell ⟨gb200, 3, none⟩ (.bool ((rd_T100 l0_5 x58_2).f3))).setCell ⟨gb200, 4, none⟩ (.slice A199_4 ((rd_T100 l0_5 x58_2).f4).length c199_4)).heap[gb193]? = some (.cells #[.string a0_0, .slice A0_1 l0_1.length c0_1, .slice A0_2 l0_2.length c0_2, .string a0_3, .bool a0_4, .slice (some ad199) l0_5.length c0_5, .slice A0_6 l0_6.length c0_6] 48 (0, 0))) := ⟨by (with_reducible repeat (first | refine blk_drewN ?_ _ | refine blk_drew ?_ | refine blk_alloc ?_ _)); (iterate 5 refine blk_far ?_ NB193_200.out _); (with_reducible repeat (first | refine blk_drewN ?_ _ | refine blk_drew ?_ | refine blk_alloc ?_ _)); exact BK193.out⟩
            have n1_ : Aside0 ((((((w49.setCell ⟨gb200, 0, none⟩ (.int .i64 ((rd_T100 l0_5 x58_2).f0))).setCell ⟨gb200, 1, none⟩ (.int .i64 ((rd_T100 l0_5 x58_2).f1))).setCell ⟨gb200, 2, none⟩ (.string ((rd_T100 l0_5 x58_2).f2))).setCell ⟨gb200, 3, none⟩ (.bool ((rd_T100 l0_5 x58_2).f3))).setCell ⟨gb200, 4, none⟩ (.slice A199_4 ((rd_T100 l0_5 x58_2).f4).length c199_4)).heap[gb200]? = some (.cells #[.int .i64 ((rd_T100 l0_5 x58_2).f0), .int .i64 ((rd_T100 l0_5 x58_2).f1), .string ((rd_T100 l0_5 x58_2).f2), .bool ((rd_T100 l0_5 x58_2).f3), .slice A199_4 ((rd_T100 l0_5 x58_2).f4).length c199_4] 100 (0, 0))) := ⟨by (with_reducible repeat (first | refine blk_drewN ?_ _ | refine blk_drew ?_ | refine blk_alloc ?_ _)); exact bp5 BK200.out⟩
            have n2_ : Aside0 (Below w.heap.size w (((((w49.setCell ⟨gb200, 0, none⟩ (.int .i64 ((rd_T100 l0_5 x58_2).f0))).setCell ⟨gb200, 1, none⟩ (.int .i64 ((rd_T100 l0_5 x58_2).f1))).setCell ⟨gb200, 2, none⟩ (.string ((rd_T100 l0_5 x58_2).f2))).setCell ⟨gb200, 3, none⟩ (.bool ((rd_T100 l0_5 x58_2).f3))).setCell ⟨gb200, 4, none⟩ (.slice A199_4 ((rd_T100 l0_5 x58_2).f4).length c199_4))) := ⟨by repeat (first | (with_reducible first | exact HB.out | apply below_alloc | apply pw_below_drewN | apply below_drew1 | refine below_set ?_ GE193.out | refine below_set ?_ GE200.out) | exact HB.out | (with_reducible exact Below.refl _ _))⟩
            (try clear BK193); (try clear BK200); (try clear HB); generalize (((((w49.setCell ⟨gb200, 0, none⟩ (.int .i64 ((rd_T100 l0_5 x58_2).f0))).setCell ⟨gb200, 1, none⟩ (.int .i64 ((rd_T100 l0_5 x58_2).f1))).setCell ⟨gb200, 2, none⟩ (.string ((rd_T100 l0_5 x58_2).f2))).setCell ⟨gb200, 3, none⟩ (.bool ((rd_T100 l0_5 x58_2).f3))).setCell ⟨gb200, 4, none⟩ (.slice A199_4 ((rd_T100 l0_5 x58_2).f4).length c199_4)) = w52 at n0_ n1_ n2_ ⊢; have BK193 := n0_; have BK200 := n1_; have HB := n2_; clear n0_ n1_ n2_; replace BK193 := Aside0.mk (blk_drew BK193.out); replace BK200 := Aside0.mk (blk_drew BK200.out); replace HB := Aside0.mk (below_drew1 HB.out); refine start_ (n := 29) (S := fun w' => w'.cell? ⟨gb200, 0, none⟩ = some (.int .i64 ((rd_T100 l0_5 x58_2).f0)) ∧ w'.cell? ⟨gb200, 1, none⟩ = some (.int .i64 ((rd_T100 l0_5 x58_2).f1)) ∧ w'.cell? ⟨gb200, 2, none⟩ = some (.string ((rd_T100 l0_5 x58_2).f2)) ∧ w'.cell? ⟨gb200, 3, none⟩ = some (.bool ((rd_T100 l0_5 x58_2).f3)) ∧ w'.cell? ⟨gb200, 4, none⟩ = some (.slice A199_4 ((rd_T100 l0_5 x58_2).f4).length c199_4) ∧ w'.cell? ⟨gb193, 0, none⟩ = some (.string a0_0) ∧ w'.cell? ⟨gb193, 1, none⟩ = some (.slice A0_1 l0_1.length c0_1) ∧ w'.cell? ⟨gb193, 2, none⟩ = some (.slice A0_2 l0_2.length c0_2) ∧ w'.cell? ⟨gb193, 3, none⟩ = some (.string a0_3) ∧ w'.cell? ⟨gb193, 4, none⟩ = some (.bool a0_4) ∧ w'.cell? ⟨gb193, 5, none⟩ = some (.slice (some ad199) l0_5.length c0_5) ∧ w'.cell? ⟨gb193, 6, none⟩ = some (.slice A0_6 l0_6.length c0_6)) (ds := []) (mqN 29 0) (by kernel_rfl) rfl rfl ⟨(blk_cell BK200.out 0).trans rfl, (blk_cell BK200.out 1).trans rfl, (blk_cell BK200.out 2).trans rfl, (blk_cell BK200.out 3).trans rfl, (blk_cell BK200.out 4).trans rfl, (blk_cell BK193.out 0).trans rfl, (blk_cell BK193.out 1).trans rfl, (blk_cell BK193.out 2).trans rfl, (blk_cell BK193.out 3).trans rfl, (blk_cell BK193.out 4).trans rfl, (blk_cell BK193.out 5).trans rfl, (blk_cell BK193.out 6).trans rfl⟩ (fun hHeld => ?_); refine with_tabW impl_GoodSession.tab6 impl_GoodSession.bits6 (fun HT_ HW_ => ?_); generalize w52.drew = w53 at BK193 BK200 HB hHeld ⊢; refine pV 0 62 (mqN 29 1) ?_ rfl rfl (any_of HT_.out (by kernel_rfl)) (fun _ _ _ h => h) (Or.inl ⟨by rfl, ?_⟩) ?_ ?_ ?_; rotate_left
            ·intro w'; go_simp; with_reducible rfl
            rotate_left
            ·simp only [Act.put, setA, set0, setS, i64_w]; rfl
            refine take_ (i := 1) (N := some 63) (v := ?_) (a' := ?_) (mqN 29 2) rfl rfl (take_ofW HT_.out HW_.out (by kernel_rfl)) (fun _ _ _ h => h) (Or.inl ⟨by rfl, ?_⟩) hHeld ?_ ?_; rotate_left
            ·rintro w' ⟨s0, s1, s2, s3, s4, s5, s6, s7, s8, s9, s10, s11⟩
             go_simp; with_reducible rfl
            rotate_left
            ·simp only [Act.put, setA, set0, setS, i64_w]; rfl
            refine pV 2 64 (mqN 29 3) ?_ rfl rfl (any_of HT_.out (by kernel_rfl)) (fun _ _ _ h => h) (Or.inl ⟨by rfl, ?_⟩) ?_ ?_ ?_; rotate_left
            ·intro w'; go_simp; with_reducible rfl
            rotate_left
            ·simp only [Act.put, setA, set0, setS, i64_w]; rfl
            refine pV 3 65 (mqN 29 4) ?_ rfl rfl (any_of HT_.out (by kernel_rfl)) (fun _ _ _ h => h) (Or.inl ⟨by rfl, ?_⟩) ?_ ?_ ?_; rotate_left
            ·intro w'; go_simp; with_reducible rfl
            rotate_left
            ·simp only [Act.put, setA, set0, setS, i64_w]; rfl
            refine pV 4 66 (mqN 29 5) ?_ rfl rfl (any_of HT_.out (by kernel_rfl)) (fun _ _ _ h => h) (Or.inl ⟨by rfl, ?_⟩) ?_ ?_ ?_; rotate_left
            ·intro w'; go_simp; with_reducible rfl
            rotate_left
            ·simp only [Act.put, setA, set0, setS, i64_w]; rfl
            refine pV 6 68 #[tt,tt,tt,tt,tt,ff,tt,ff,ff,ff,ff,ff,ff,ff,ff,ff,ff,ff,ff,ff,ff,ff,ff,ff,ff,ff,ff,ff,ff] ?_ rfl rfl (any_of HT_.out (by kernel_rfl)) (fun _ _ _ h => h) (Or.inl ⟨by rfl, ?_⟩) ?_ ?_ ?_; rotate_left
            ·intro w'; go_simp; with_reducible rfl
            rotate_left
            ·simp only [Act.put, setA, set0, setS, i64_w]; rfl
            refine take_ (i := 5) (N := some 67) (v := ?_) (a' := ?_) (mqN 29 7) rfl rfl (take_ofW HT_.out HW_.out (by kernel_rfl)) (fun _ _ _ h => h) (Or.inl ⟨by rfl, ?_⟩) hHeld ?_ ?_; rotate_left
            ·rintro w' ⟨s0, s1, s2, s3, s4, s5, s6, s7, s8, s9, s10, s11⟩
             go_simp; with_reducible rfl
            rotate_left
            ·simp only [Act.put, setA, set0, setS, i64_w]; rfl
            refine take_ (i := 7) (N := some 69) (v := ?_) (a' := ?_) (mqN 29 8) rfl rfl (take_ofW HT_.out HW_.out (by kernel_rfl)) (fun _ _ _ h => h) (Or.inl ⟨by rfl, ?_⟩) hHeld ?_ ?_; rotate_left
            ·rintro w' ⟨s0, s1, s2, s3, s4, s5, s6, s7, s8, s9, s10, s11⟩
             go_simp; with_reducible rfl
            rotate_left
            ·simp only [Act.put, setA, set0, setS, i64_w]; rfl
            refine pV 8 70 (mqN 29 9) ?_ rfl rfl (any_of HT_.out (by kernel_rfl)) (fun _ _ _ h => h) (Or.inl ⟨by rfl, ?_⟩) ?_ ?_ ?_; rotate_left
            ·intro w'; go_simp; with_reducible rfl
            rotate_left
            ·simp only [Act.put, setA, set0, setS, i64_w]; rfl
            refine pV 9 71 (mqN 29 10) ?_ rfl rfl (any_of HT_.out (by kernel_rfl)) (fun _ _ _ h => h) (Or.inl ⟨by rfl, ?_⟩) ?_ ?_ ?_; rotate_left
            ·intro w'; go_simp; with_reducible rfl
            rotate_left
            ·simp only [Act.put, setA, set0, setS, i64_w]; rfl
            refine one_ (i := 10) (N := some 72) (mqN 29 11) rfl rfl (one_of HT_.out (by kernel_rfl)) (by decide) (fun K hK => ?_); refine goes_ Try.func36 (by kernel_rfl) rfl #[.int .i64 ((rd_T100 l0_5 x58_2).f1), .int .i64 0, .int .i64 (wrap64 ((l0_2.length : Int) - 1))] (by rfl) rfl rfl (by (try simp only [List.map_toArray, List.map_cons, List.map_nil]); first | done | rfl | (simp only [List.length_drop, List.length_take]; rfl)) ?_; with_reducible refine (impl_within.calls ((rd_T100 l0_5 x58_2).f1) 0 (wrap64 ((l0_2.length : Int) - 1)) true _ A32.out).mono ?_
            rintro e w' ⟨rfl, ⟨nd, rfl⟩⟩
            refine ⟨_, rfl, ?_⟩; refine hK.out _ _ ⟨(blk_cell BK200.out 0).trans rfl, (blk_cell BK200.out 1).trans rfl, (blk_cell BK200.out 2).trans rfl, (blk_cell BK200.out 3).trans rfl, (blk_cell BK200.out 4).trans rfl, (blk_cell BK193.out 0).trans rfl, (blk_cell BK193.out 1).trans rfl, (blk_cell BK193.out 2).trans rfl, (blk_cell BK193.out 3).trans rfl, (blk_cell BK193.out 4).trans rfl, (blk_cell BK193.out 5).trans rfl, (blk_cell BK193.out 6).trans rfl⟩ (fun hHeld => ?_); clear hK K; refine norm_ (a' := ?_) ?_ ?_; rotate_left
            ·show Act.put _ (some 72) _ = _; simp only [Act.put, setA, set0, setS, i64_w]; rfl
            refine pV 11 73 (mqN 29 12) ?_ rfl rfl (any_of HT_.out (by kernel_rfl)) (fun _ _ _ h => h) (Or.inl ⟨by rfl, ?_⟩) ?_ ?_ ?_; rotate_left
            ·intro w'; go_simp; with_reducible rfl
            rotate_left
            ·simp only [Act.put, setA, set0, setS, i64_w]; rfl
            refine pV 12 74 (mqN 29 13) ?_ rfl rfl (any_of HT_.out (by kernel_rfl)) (fun _ _ _ h => h) (Or.inl ⟨by rfl, ?_⟩) ?_ ?_ ?_; rotate_left
            ·intro w'; go_simp; with_reducible rfl
            rotate_left
            ·simp only [Act.put, setA, set0, setS, i64_w]; rfl
            refine pV 13 75 (mqN 29 14) ?_ rfl rfl (any_of HT_.out (by kernel_rfl)) (fun _ _ _ h => h) (Or.inl ⟨by rfl, ?_⟩) ?_ ?_ ?_; rotate_left
            ·intro w'; go_simp; with_reducible rfl
            rotate_left
            ·simp only [Act.put, setA, set0, setS, i64_w]; rfl
            refine pV 14 76 (mqN 29 15) ?_ rfl rfl (any_of HT_.out (by kernel_rfl)) (fun _ _ _ h => h) (Or.inl ⟨by rfl, ?_⟩) ?_ ?_ ?_; rotate_left
            ·intro w'; go_simp; with_reducible rfl
            rotate_left
            ·simp only [Act.put, setA, set0, setS, i64_w]; rfl
            refine pV 16 78 #[tt,tt,tt,tt,tt,tt,tt,tt,tt,tt,tt,tt,tt,tt,tt,ff,tt,ff,ff,ff,ff,ff,ff,ff,ff,ff,ff,ff,ff] ?_ rfl rfl (any_of HT_.out (by kernel_rfl)) (fun _ _ _ h => h) (Or.inl ⟨by rfl, ?_⟩) ?_ ?_ ?_; rotate_left
            ·intro w'; go_simp; with_reducible rfl
            rotate_left
            ·simp only [Act.put, setA, set0, setS, i64_w]; rfl
            refine pV 18 80 #[tt,tt,tt,tt,tt,tt,tt,tt,tt,tt,tt,tt,tt,tt,tt,ff,tt,ff,tt,ff,ff,ff,ff,ff,ff,ff,ff,ff,ff] ?_ rfl rfl (any_of HT_.out (by kernel_rfl)) (fun _ _ _ h => h) (Or.inl ⟨by rfl, ?_⟩) ?_ ?_ ?_; rotate_left
            ·intro w'; go_simp; with_reducible rfl
            rotate_left
            ·simp only [Act.put, setA, set0, setS, i64_w]; rfl
            refine take_ (i := 15) (N := some 77) (v := ?_) (a' := ?_) #[tt,tt,tt,tt,tt,tt,tt,tt,tt,tt,tt,tt,tt,tt,tt,tt,tt,ff,tt,ff,ff,ff,ff,ff,ff,ff,ff,ff,ff] rfl rfl (take_ofW HT_.out HW_.out (by kernel_rfl)) (fun _ _ _ h => h) (Or.inl ⟨by rfl, ?_⟩) hHeld ?_ ?_; rotate_left
            ·rintro w' ⟨s0, s1, s2, s3, s4, s5, s6, s7, s8, s9, s10, s11⟩
             go_simp; with_reducible rfl
            rotate_left
            ·simp only [Act.put, setA, set0, setS, i64_w]; rfl
            refine take_ (i := 17) (N := some 79) (v := ?_) (a' := ?_) (mqN 29 19) rfl rfl (take_ofW HT_.out HW_.out (by kernel_rfl)) (fun _ _ _ h => h) (Or.inl ⟨by rfl, ?_⟩) hHeld ?_ ?_; rotate_left
            ·rintro w' ⟨s0, s1, s2, s3, s4, s5, s6, s7, s8, s9, s10, s11⟩
             go_simp; with_reducible rfl
            rotate_left
            ·simp only [Act.put, setA, set0, setS, i64_w]; rfl
            refine take_ (i := 19) (N := some 81) (v := ?_) (a' := ?_) (mqN 29 20) rfl rfl (take_ofW HT_.out HW_.out (by kernel_rfl)) (fun _ _ _ h => h) (Or.inl ⟨by rfl, ?_⟩) hHeld ?_ ?_; rotate_left
            ·rintro w' ⟨s0, s1, s2, s3, s4, s5, s6, s7, s8, s9, s10, s11⟩
             go_simp; with_reducible rfl
            rotate_left
            ·simp only [Act.put, setA, set0, setS, i64_w]; rfl
            refine one_ (i := 20) (N := some 82) (mqN 29 21) rfl rfl (one_of HT_.out (by kernel_rfl)) (by decide) (fun K hK => ?_); refine goes_ Try.func84 (by kernel_rfl) rfl #[.string a0_0, .int .i64 ((rd_T100 l0_5 x58_2).f1)] (by rfl) rfl rfl (by (try simp only [List.map_toArray, List.map_cons, List.map_nil]); first | done | rfl | (simp only [List.length_drop, List.length_take]; rfl)) ?_; with_reducible refine (impl_segment.calls a0_0 ((rd_T100 l0_5 x58_2).f1) t202 _ A34.out).mono ?_
            rintro e w54 ⟨rfl, hb⟩
            refine ⟨_, rfl, ?_⟩; replace BK193 := ba_ BK193 hb; replace BK200 := ba_ BK200 hb; replace HB := hb_ HB hb; (try clear hb); (try clear hb2); (try clear hk); (try clear hi); refine hK.out _ _ ⟨(blk_cell BK200.out 0).trans rfl, (blk_cell BK200.out 1).trans rfl, (blk_cell BK200.out 2).trans rfl, (blk_cell BK200.out 3).trans rfl, (blk_cell BK200.out 4).trans rfl, (blk_cell BK193.out 0).trans rfl, (blk_cell BK193.out 1).trans rfl, (blk_cell BK193.out 2).trans rfl, (blk_cell BK193.out 3).trans rfl, (blk_cell BK193.out 4).trans rfl, (blk_cell BK193.out 5).trans rfl, (blk_cell BK193.out 6).trans rfl⟩ (fun hHeld => ?_); clear hK K; refine norm_ (a' := ?_) ?_ ?_; rotate_left
            ·show Act.put _ (some 82) _ = _; simp only [Act.put, setA, set0, setS, i64_w]; rfl
            refine pV 21 83 (mqN 29 22) ?_ rfl rfl (any_of HT_.out (by kernel_rfl)) (fun _ _ _ h => h) (Or.inl ⟨by rfl, ?_⟩) ?_ ?_ ?_; rotate_left
            ·intro w'; go_simp; with_reducible rfl
            rotate_left
            ·simp only [Act.put, setA, set0, setS, i64_w]; rfl
            refine pV 22 84 (mqN 29 23) ?_ rfl rfl (any_of HT_.out (by kernel_rfl)) (fun _ _ _ h => h) (Or.inl ⟨by rfl, ?_⟩) ?_ ?_ ?_; rotate_left
            ·intro w'; go_simp; with_reducible rfl
            rotate_left
            ·simp only [Act.put, setA, set0, setS, i64_w]; rfl
            refine pV 23 85 (mqN 29 24) ?_ rfl rfl (any_of HT_.out (by kernel_rfl)) (fun _ _ _ h => h) (Or.inl ⟨by rfl, ?_⟩) ?_ ?_ ?_; rotate_left
            ·intro w'; go_simp; with_reducible rfl
            rotate_left
            ·simp only [Act.put, setA, set0, setS, i64_w]; rfl
            refine pU 24 86 (mqN 29 25) rfl rfl (any_of HT_.out (by kernel_rfl)) (fun _ _ _ h => h) (Or.inr ⟨by rfl, rfl⟩) ?_ ?_ ?_; rotate_left
            ·simp only [Act.put, setA, set0, setS, i64_w]; rfl
            refine pU 25 87 (mqN 29 26) rfl rfl (any_of HT_.out (by kernel_rfl)) (fun _ _ _ h => h) (Or.inr ⟨by rfl, rfl⟩) ?_ ?_ ?_; rotate_left
            ·simp only [Act.put, setA, set0, setS, i64_w]; rfl
            refine pU 26 88 (mqN 29 27) rfl rfl (any_of HT_.out (by kernel_rfl)) (fun _ _ _ h => h) (Or.inr ⟨by rfl, rfl⟩) ?_ ?_ ?_; rotate_left
            ·simp only [Act.put, setA, set0, setS, i64_w]; rfl
            refine pU 27 89 (mqN 29 28) rfl rfl (any_of HT_.out (by kernel_rfl)) (fun _ _ _ h => h) (Or.inr ⟨by rfl, rfl⟩) ?_ ?_ ?_; rotate_left
            ·simp only [Act.put, setA, set0, setS, i64_w]; rfl
            refine pV 28 90 (mqN 29 29) ?_ rfl rfl (any_of HT_.out (by kernel_rfl)) (fun _ _ _ h => h) (Or.inl ⟨by rfl, ?_⟩) ?_ ?_ ?_; rotate_left
            ·intro w'; go_simp; with_reducible rfl
            rotate_left
            ·simp only [Act.put, setA, set0, setS, i64_w]; rfl
            refine done_ (done_of HT_.out (by kernel_rfl)) ?_; try go_wp2
            go_ret; exact ⟨by first | rfl | (simp [errW_none, errW_some] <;> rfl) | (simp [*, errW_none, errW_some] <;> rfl), by repeat (first | (with_reducible first | exact HB.out | apply below_alloc | apply pw_below_drewN | apply below_drew1 | refine below_set ?_ GE193.out | refine below_set ?_ GE200.out) | exact HB.out | (with_reducible exact Below.refl _ _))⟩
          ·replace c33 := Bool.eq_false_iff.mpr c33; subst c33; rw [if_neg (show ¬ (false = true) by decide)] at H; obtain rfl := Option.some.inj H; have p199 : 0 ≤ (x58_2 : Int) := of_decide_eq_true (by first | (with_reducible assumption) | assumption); have q199 : x58_2 < (l0_5.length : Int) := of_decide_eq_true (by first | (with_reducible assumption) | assumption); obtain ⟨ad199, A199_4, c199_4, e199, hx199_0, hx199_1, hx199_2, hx199_3, hx199_4, hl199_4, hi199_4⟩ := at_T100 HR0_5.out x58_2 p199 q199; cases e199; replace hx199_0 := (HB.out.cell (World.block_lt_of_cell? w _ hx199_0)).trans hx199_0; replace hx199_1 := (HB.out.cell (World.block_lt_of_cell? w _ hx199_1)).trans hx199_1; replace hx199_2 := (HB.out.cell (World.block_lt_of_cell? w _ hx199_2)).trans hx199_2; replace hx199_3 := (HB.out.cell (World.block_lt_of_cell? w _ hx199_3)).trans hx199_3; replace hx199_4 := (HB.out.cell (World.block_lt_of_cell? w _ hx199_4)).trans hx199_4; have HR199_4 := Aside0.mk hi199_4; have HC199_4 := Aside0.mk hl199_4; clear hi199_4 hl199_4; replace p199 := eq_true p199; replace q199 := eq_true q199; try go_wp2_with (first | ((with_reducible refine gate_dst (N := 4) rfl ?_); (try (refine gate_guard (by rfl) ?_; dsimp only)); refine box_event ?hg (N := 4) ?hd (cs := #[.int .i64 0, .int .i64 0, .string (⟨#[]⟩ : ByteArray), .bool false, .slice none 0 0]) (t := 100) ?hr ?_; (case hd => rfl); (case hg => rfl); (case hr => first | (go_simp; done) | (go_simp; rfl)); intro gb200 hg w55 hbox hb; have BK200 := Aside0.mk (hbox); have GW200 := ge_ HB hg; have GE200 := ge_ HB hg; replace HB := hb_ HB hb; have NB193_200 := nl_ BK193 hg; have NB200_193 := ng_ BK193 hg; replace BK193 := ba_ BK193 hb; clear hb hbox hg; have hnb56 := NB200_193.out; have hnc56 := NB193_200.out; obtain ⟨hcz57_0, hcz57_1, hcz57_2, hcz57_3, hcz57_4, hfz57_0, hfz57_1, hfz57_2, hfz57_3, hfz57_4⟩ := cf5 BK200.out))
           have n0_ : Aside0 ((((((w55.setCell ⟨gb200, 0, none⟩ (.int .i64 ((rd_T100 l0_5 x58_2).f0))).setCell ⟨gb200, 1, none⟩ (.int .i64 ((rd_T100 l0_5 x58_2).f1))).setCell ⟨gb200, 2, none⟩ (.string ((rd_T100 l0_5 x58_2).f2))).setCell ⟨gb200, 3, none⟩ (.bool ((rd_T100 l0_5 x58_2).f3))).setCell ⟨gb200, 4, none⟩ (.slice A199_4 ((rd_T100 l0_5 x58_2).f4).length c199_4)).heap[gb193]? = some (.cells #[.string a0_0, .slice A0_1 l0_1.length c0_1, .slice A0_2 l0_2.length c0_2, .string a0_3, .bool a0_4, .slice (some ad199) l0_5.length c0_5, .slice A0_6 l0_6.length c0_6] 48 (0, 0))) := ⟨by (with_reducible repeat (first | refine blk_drewN ?_ _ | refine blk_drew ?_ | refine blk_alloc ?_ _)); (iterate 5 refine blk_far ?_ NB193_200.out _); (with_reducible repeat (first | refine blk_drewN ?_ _ | refine blk_drew ?_ | refine blk_alloc ?_ _)); exact BK193.out⟩
           have n1_ : Aside0 ((((((w55.setCell ⟨gb200, 0, none⟩ (.int .i64 ((rd_T100 l0_5 x58_2).f0))).setCell ⟨gb200, 1, none⟩ (.int .i64 ((rd_T100 l0_5 x58_2).f1))).setCell ⟨gb200, 2, none⟩ (.string ((rd_T100 l0_5 x58_2).f2))).setCell ⟨gb200, 3, none⟩ (.bool ((rd_T100 l0_5 x58_2).f3))).setCell ⟨gb200, 4, none⟩ (.slice A199_4 ((rd_T100 l0_5 x58_2).f4).length c199_4)).heap[gb200]? = some (.cells #[.int .i64 ((rd_T100 l0_5 x58_2).f0), .int .i64 ((rd_T100 l0_5 x58_2).f1), .string ((rd_T100 l0_5 x58_2).f2), .bool ((rd_T100 l0_5 x58_2).f3), .slice A199_4 ((rd_T100 l0_5 x58_2).f4).length c199_4] 100 (0, 0))) := ⟨by (with_reducible repeat (first | refine blk_drewN ?_ _ | refine blk_drew ?_ | refine blk_alloc ?_ _)); exact bp5 BK200.out⟩
           have n2_ : Aside0 (Below w.heap.size w (((((w55.setCell ⟨gb200, 0, none⟩ (.int .i64 ((rd_T100 l0_5 x58_2).f0))).setCell ⟨gb200, 1, none⟩ (.int .i64 ((rd_T100 l0_5 x58_2).f1))).setCell ⟨gb200, 2, none⟩ (.string ((rd_T100 l0_5 x58_2).f2))).setCell ⟨gb200, 3, none⟩ (.bool ((rd_T100 l0_5 x58_2).f3))).setCell ⟨gb200, 4, none⟩ (.slice A199_4 ((rd_T100 l0_5 x58_2).f4).length c199_4))) := ⟨by repeat (first | (with_reducible first | exact HB.out | apply below_alloc | apply pw_below_drewN | apply below_drew1 | refine below_set ?_ GE193.out | refine below_set ?_ GE200.out) | exact HB.out | (with_reducible exact Below.refl _ _))⟩
           (try clear BK193); (try clear BK200); (try clear HB); generalize (((((w55.setCell ⟨gb200, 0, none⟩ (.int .i64 ((rd_T100 l0_5 x58_2).f0))).setCell ⟨gb200, 1, none⟩ (.int .i64 ((rd_T100 l0_5 x58_2).f1))).setCell ⟨gb200, 2, none⟩ (.string ((rd_T100 l0_5 x58_2).f2))).setCell ⟨gb200, 3, none⟩ (.bool ((rd_T100 l0_5 x58_2).f3))).setCell ⟨gb200, 4, none⟩ (.slice A199_4 ((rd_T100 l0_5 x58_2).f4).length c199_4)) = w58 at n0_ n1_ n2_ ⊢; have BK193 := n0_; have BK200 := n1_; have HB := n2_; clear n0_ n1_ n2_; replace BK193 := Aside0.mk (blk_drew BK193.out); replace BK200 := Aside0.mk (blk_drew BK200.out); replace HB := Aside0.mk (below_drew1 HB.out); refine start_ (n := 29) (S := fun w' => w'.cell? ⟨gb200, 0, none⟩ = some (.int .i64 ((rd_T100 l0_5 x58_2).f0)) ∧ w'.cell? ⟨gb200, 1, none⟩ = some (.int .i64 ((rd_T100 l0_5 x58_2).f1)) ∧ w'.cell? ⟨gb200, 2, none⟩ = some (.string ((rd_T100 l0_5 x58_2).f2)) ∧ w'.cell? ⟨gb200, 3, none⟩ = some (.bool ((rd_T100 l0_5 x58_2).f3)) ∧ w'.cell? ⟨gb200, 4, none⟩ = some (.slice A199_4 ((rd_T100 l0_5 x58_2).f4).length c199_4) ∧ w'.cell? ⟨gb193, 0, none⟩ = some (.string a0_0) ∧ w'.cell? ⟨gb193, 1, none⟩ = some (.slice A0_1 l0_1.length c0_1) ∧ w'.cell? ⟨gb193, 2, none⟩ = some (.slice A0_2 l0_2.length c0_2) ∧ w'.cell? ⟨gb193, 3, none⟩ = some (.string a0_3) ∧ w'.cell? ⟨gb193, 4, none⟩ = some (.bool a0_4) ∧ w'.cell? ⟨gb193, 5, none⟩ = some (.slice (some ad199) l0_5.length c0_5) ∧ w'.cell? ⟨gb193, 6, none⟩ = some (.slice A0_6 l0_6.length c0_6)) (ds := []) (mqN 29 0) (by kernel_rfl) rfl rfl ⟨(blk_cell BK200.out 0).trans rfl, (blk_cell BK200.out 1).trans rfl, (blk_cell BK200.out 2).trans rfl, (blk_cell BK200.out 3).trans rfl, (blk_cell BK200.out 4).trans rfl, (blk_cell BK193.out 0).trans rfl, (blk_cell BK193.out 1).trans rfl, (blk_cell BK193.out 2).trans rfl, (blk_cell BK193.out 3).trans rfl, (blk_cell BK193.out 4).trans rfl, (blk_cell BK193.out 5).trans rfl, (blk_cell BK193.out 6).trans rfl⟩ (fun hHeld => ?_); refine with_tabW impl_GoodSession.tab6 impl_GoodSession.bits6 (fun HT_ HW_ => ?_); generalize w58.drew = w59 at BK193 BK200 HB hHeld ⊢; refine pV 0 62 (mqN 29 1) ?_ rfl rfl (any_of HT_.out (by kernel_rfl)) (fun _ _ _ h => h) (Or.inl ⟨by rfl, ?_⟩) ?_ ?_ ?_; rotate_left
           ·intro w'; go_simp; with_reducible rfl
           rotate_left
           ·simp only [Act.put, setA, set0, setS, i64_w]; rfl
           refine take_ (i := 1) (N := some 63) (v := ?_) (a' := ?_) (mqN 29 2) rfl rfl (take_ofW HT_.out HW_.out (by kernel_rfl)) (fun _ _ _ h => h) (Or.inl ⟨by rfl, ?_⟩) hHeld ?_ ?_; rotate_left
           ·rintro w' ⟨s0, s1, s2, s3, s4, s5, s6, s7, s8, s9, s10, s11⟩
            go_simp; with_reducible rfl
           rotate_left
           ·simp only [Act.put, setA, set0, setS, i64_w]; rfl
           refine pV 2 64 (mqN 29 3) ?_ rfl rfl (any_of HT_.out (by kernel_rfl)) (fun _ _ _ h => h) (Or.inl ⟨by rfl, ?_⟩) ?_ ?_ ?_; rotate_left
           ·intro w'; go_simp; with_reducible rfl
           rotate_left
           ·simp only [Act.put, setA, set0, setS, i64_w]; rfl
           refine pV 3 65 (mqN 29 4) ?_ rfl rfl (any_of HT_.out (by kernel_rfl)) (fun _ _ _ h => h) (Or.inl ⟨by rfl, ?_⟩) ?_ ?_ ?_; rotate_left
           ·intro w'; go_simp; with_reducible rfl
           rotate_left
           ·simp only [Act.put, setA, set0, setS, i64_w]; rfl
           refine pV 4 66 (mqN 29 5) ?_ rfl rfl (any_of HT_.out (by kernel_rfl)) (fun _ _ _ h => h) (Or.inl ⟨by rfl, ?_⟩) ?_ ?_ ?_; rotate_left
           ·intro w'; go_simp; with_reducible rfl
           rotate_left
           ·simp only [Act.put, setA, set0, setS, i64_w]; rfl
           refine pV 6 68 #[tt,tt,tt,tt,tt,ff,tt,ff,ff,ff,ff,ff,ff,ff,ff,ff,ff,ff,ff,ff,ff,ff,ff,ff,ff,ff,ff,ff,ff] ?_ rfl rfl (any_of HT_.out (by kernel_rfl)) (fun _ _ _ h => h) (Or.inl ⟨by rfl, ?_⟩) ?_ ?_ ?_; rotate_left
           ·intro w'; go_simp; with_reducible rfl
           rotate_left
           ·simp only [Act.put, setA, set0, setS, i64_w]; rfl
           refine take_ (i := 5) (N := some 67) (v := ?_) (a' := ?_) (mqN 29 7) rfl rfl (take_ofW HT_.out HW_.out (by kernel_rfl)) (fun _ _ _ h => h) (Or.inl ⟨by rfl, ?_⟩) hHeld ?_ ?_; rotate_left
           ·rintro w' ⟨s0, s1, s2, s3, s4, s5, s6, s7, s8, s9, s10, s11⟩
            go_simp; with_reducible rfl
           rotate_left
           ·simp only [Act.put, setA, set0, setS, i64_w]; rfl
           refine take_ (i := 7) (N := some 69) (v := ?_) (a' := ?_) (mqN 29 8) rfl rfl (take_ofW HT_.out HW_.out (by kernel_rfl)) (fun _ _ _ h => h) (Or.inl ⟨by rfl, ?_⟩) hHeld ?_ ?_; rotate_left
           ·rintro w' ⟨s0, s1, s2, s3, s4, s5, s6, s7, s8, s9, s10, s11⟩
            go_simp; with_reducible rfl
           rotate_left
           ·simp only [Act.put, setA, set0, setS, i64_w]; rfl
           refine pV 8 70 (mqN 29 9) ?_ rfl rfl (any_of HT_.out (by kernel_rfl)) (fun _ _ _ h => h) (Or.inl ⟨by rfl, ?_⟩) ?_ ?_ ?_; rotate_left
           ·intro w'; go_simp; with_reducible rfl
           rotate_left
           ·simp only [Act.put, setA, set0, setS, i64_w]; rfl
           refine pV 9 71 (mqN 29 10) ?_ rfl rfl (any_of HT_.out (by kernel_rfl)) (fun _ _ _ h => h) (Or.inl ⟨by rfl, ?_⟩) ?_ ?_ ?_; rotate_left
           ·intro w'; go_simp; with_reducible rfl
           rotate_left
           ·simp only [Act.put, setA, set0, setS, i64_w]; rfl
           refine one_ (i := 10) (N := some 72) (mqN 29 11) rfl rfl (one_of HT_.out (by kernel_rfl)) (by decide) (fun K hK => ?_); refine goes_ Try.func36 (by kernel_rfl) rfl #[.int .i64 ((rd_T100 l0_5 x58_2).f1), .int .i64 0, .int .i64 (wrap64 ((l0_2.length : Int) - 1))] (by rfl) rfl rfl (by (try simp only [List.map_toArray, List.map_cons, List.map_nil]); first | done | rfl | (simp only [List.length_drop, List.length_take]; rfl)) ?_; with_reducible refine (impl_within.calls ((rd_T100 l0_5 x58_2).f1) 0 (wrap64 ((l0_2.length : Int) - 1)) false _ A32.out).mono ?_
           rintro e w' ⟨rfl, ⟨nd, rfl⟩⟩
           refine ⟨_, rfl, ?_⟩; refine hK.out _ _ ⟨(blk_cell BK200.out 0).trans rfl, (blk_cell BK200.out 1).trans rfl, (blk_cell BK200.out 2).trans rfl, (blk_cell BK200.out 3).trans rfl, (blk_cell BK200.out 4).trans rfl, (blk_cell BK193.out 0).trans rfl, (blk_cell BK193.out 1).trans rfl, (blk_cell BK193.out 2).trans rfl, (blk_cell BK193.out 3).trans rfl, (blk_cell BK193.out 4).trans rfl, (blk_cell BK193.out 5).trans rfl, (blk_cell BK193.out 6).trans rfl⟩ (fun hHeld => ?_); clear hK K; refine norm_ (a' := ?_) ?_ ?_; rotate_left
           ·show Act.put _ (some 72) _ = _; simp only [Act.put, setA, set0, setS, i64_w]; rfl
           refine pV 11 73 (mqN 29 12) ?_ rfl rfl (any_of HT_.out (by kernel_rfl)) (fun _ _ _ h => h) (Or.inl ⟨by rfl, ?_⟩) ?_ ?_ ?_; rotate_left
           ·intro w'; go_simp; with_reducible rfl
           rotate_left
           ·simp only [Act.put, setA, set0, setS, i64_w]; rfl
           refine pV 12 74 (mqN 29 13) ?_ rfl rfl (any_of HT_.out (by kernel_rfl)) (fun _ _ _ h => h) (Or.inl ⟨by rfl, ?_⟩) ?_ ?_ ?_; rotate_left
           ·intro w'; go_simp; with_reducible rfl
           rotate_left
           ·simp only [Act.put, setA, set0, setS, i64_w]; rfl
           refine pV 13 75 (mqN 29 14) ?_ rfl rfl (any_of HT_.out (by kernel_rfl)) (fun _ _ _ h => h) (Or.inl ⟨by rfl, ?_⟩) ?_ ?_ ?_; rotate_left
           ·intro w'; go_simp; with_reducible rfl
           rotate_left
           ·simp only [Act.put, setA, set0, setS, i64_w]; rfl
           refine pU 14 76 (mqN 29 15) rfl rfl (any_of HT_.out (by kernel_rfl)) (fun _ _ _ h => h) (Or.inr ⟨by rfl, rfl⟩) ?_ ?_ ?_; rotate_left
           ·simp only [Act.put, setA, set0, setS, i64_w]; rfl
           refine pU 15 77 (mqN 29 16) rfl rfl (any_of HT_.out (by kernel_rfl)) (fun _ _ _ h => h) (Or.inr ⟨by rfl, rfl⟩) ?_ ?_ ?_; rotate_left
           ·simp only [Act.put, setA, set0, setS, i64_w]; rfl
           refine pU 16 78 (mqN 29 17) rfl rfl (any_of HT_.out (by kernel_rfl)) (fun _ _ _ h => h) (Or.inr ⟨by rfl, rfl⟩) ?_ ?_ ?_; rotate_left
           ·simp only [Act.put, setA, set0, setS, i64_w]; rfl
           refine pU 17 79 (mqN 29 18) rfl rfl (any_of HT_.out (by kernel_rfl)) (fun _ _ _ h => h) (Or.inr ⟨by rfl, rfl⟩) ?_ ?_ ?_; rotate_left
           ·simp only [Act.put, setA, set0, setS, i64_w]; rfl
           refine pU 18 80 (mqN 29 19) rfl rfl (any_of HT_.out (by kernel_rfl)) (fun _ _ _ h => h) (Or.inr ⟨by rfl, rfl⟩) ?_ ?_ ?_; rotate_left
           ·simp only [Act.put, setA, set0, setS, i64_w]; rfl
           refine pU 19 81 (mqN 29 20) rfl rfl (any_of HT_.out (by kernel_rfl)) (fun _ _ _ h => h) (Or.inr ⟨by rfl, rfl⟩) ?_ ?_ ?_; rotate_left
           ·simp only [Act.put, setA, set0, setS, i64_w]; rfl
           refine pU 20 82 (mqN 29 21) rfl rfl (any_of HT_.out (by kernel_rfl)) (fun _ _ _ h => h) (Or.inr ⟨by rfl, rfl⟩) ?_ ?_ ?_; rotate_left
           ·simp only [Act.put, setA, set0, setS, i64_w]; rfl
           refine pU 21 83 (mqN 29 22) rfl rfl (any_of HT_.out (by kernel_rfl)) (fun _ _ _ h => h) (Or.inr ⟨by rfl, rfl⟩) ?_ ?_ ?_; rotate_left
           ·simp only [Act.put, setA, set0, setS, i64_w]; rfl
           refine pV 22 84 (mqN 29 23) ?_ rfl rfl (any_of HT_.out (by kernel_rfl)) (fun _ _ _ h => h) (Or.inl ⟨by rfl, ?_⟩) ?_ ?_ ?_; rotate_left
           ·intro w'; go_simp; with_reducible rfl
           rotate_left
           ·simp only [Act.put, setA, set0, setS, i64_w]; rfl
           refine pV 23 85 (mqN 29 24) ?_ rfl rfl (any_of HT_.out (by kernel_rfl)) (fun _ _ _ h => h) (Or.inl ⟨by rfl, ?_⟩) ?_ ?_ ?_; rotate_left
           ·intro w'; go_simp; with_reducible rfl
           rotate_left
           ·simp only [Act.put, setA, set0, setS, i64_w]; rfl
           refine pU 24 86 (mqN 29 25) rfl rfl (any_of HT_.out (by kernel_rfl)) (fun _ _ _ h => h) (Or.inr ⟨by rfl, rfl⟩) ?_ ?_ ?_; rotate_left
           ·simp only [Act.put, setA, set0, setS, i64_w]; rfl
           refine pU 25 87 (mqN 29 26) rfl rfl (any_of HT_.out (by kernel_rfl)) (fun _ _ _ h => h) (Or.inr ⟨by rfl, rfl⟩) ?_ ?_ ?_; rotate_left
           ·simp only [Act.put, setA, set0, setS, i64_w]; rfl
           refine pU 26 88 (mqN 29 27) rfl rfl (any_of HT_.out (by kernel_rfl)) (fun _ _ _ h => h) (Or.inr ⟨by rfl, rfl⟩) ?_ ?_ ?_; rotate_left
           ·simp only [Act.put, setA, set0, setS, i64_w]; rfl
           refine pU 27 89 (mqN 29 28) rfl rfl (any_of HT_.out (by kernel_rfl)) (fun _ _ _ h => h) (Or.inr ⟨by rfl, rfl⟩) ?_ ?_ ?_; rotate_left
           ·simp only [Act.put, setA, set0, setS, i64_w]; rfl
           refine pV 28 90 (mqN 29 29) ?_ rfl rfl (any_of HT_.out (by kernel_rfl)) (fun _ _ _ h => h) (Or.inl ⟨by rfl, ?_⟩) ?_ ?_ ?_; rotate_left
           ·intro w'; go_simp; with_reducible rfl
           rotate_left
           ·simp only [Act.put, setA, set0, setS, i64_w]; rfl
           refine done_ (done_of HT_.out (by kernel_rfl)) ?_; try go_wp2
           go_ret; exact ⟨by first | rfl | (simp [errW_none, errW_some] <;> rfl) | (simp [*, errW_none, errW_some] <;> rfl), by repeat (first | (with_reducible first | exact HB.out | apply below_alloc | apply pw_below_drewN | apply below_drew1 | refine below_set ?_ GE193.out | refine below_set ?_ GE200.out) | exact HB.out | (with_reducible exact Below.refl _ _))⟩
         ·rw [if_neg c31] at H; have c31b0 : (((rd_T100 l0_5 x58_2).f0) == 1) = false := beq_eq_false_iff_ne.mpr c31; have c31b1 : (((rd_T100 l0_5 x58_2).f0) != 1) = true := bne_iff_ne.mpr c31; obtain rfl := Option.some.inj H; have p199 : 0 ≤ (x58_2 : Int) := of_decide_eq_true (by first | (with_reducible assumption) | assumption); have q199 : x58_2 < (l0_5.length : Int) := of_decide_eq_true (by first | (with_reducible assumption) | assumption); obtain ⟨ad199, A199_4, c199_4, e199, hx199_0, hx199_1, hx199_2, hx199_3, hx199_4, hl199_4, hi199_4⟩ := at_T100 HR0_5.out x58_2 p199 q199; cases e199; replace hx199_0 := (HB.out.cell (World.block_lt_of_cell? w _ hx199_0)).trans hx199_0; replace hx199_1 := (HB.out.cell (World.block_lt_of_cell? w _ hx199_1)).trans hx199_1; replace hx199_2 := (HB.out.cell (World.block_lt_of_cell? w _ hx199_2)).trans hx199_2; replace hx199_3 := (HB.out.cell (World.block_lt_of_cell? w _ hx199_3)).trans hx199_3; replace hx199_4 := (HB.out.cell (World.block_lt_of_cell? w _ hx199_4)).trans hx199_4; have HR199_4 := Aside0.mk hi199_4; have HC199_4 := Aside0.mk hl199_4; clear hi199_4 hl199_4; replace p199 := eq_true p199; replace q199 := eq_true q199; try go_wp2_with (first | ((with_reducible refine gate_dst (N := 4) rfl ?_); (try (refine gate_guard (by rfl) ?_; dsimp only)); refine box_event ?hg (N := 4) ?hd (cs := #[.int .i64 0, .int .i64 0, .string (⟨#[]⟩ : ByteArray), .bool false, .slice none 0 0]) (t := 100) ?hr ?_; (case hd => rfl); (case hg => rfl); (case hr => first | (go_simp; done) | (go_simp; rfl)); intro gb200 hg w60 hbox hb; have BK200 := Aside0.mk (hbox); have GW200 := ge_ HB hg; have GE200 := ge_ HB hg; replace HB := hb_ HB hb; have NB193_200 := nl_ BK193 hg; have NB200_193 := ng_ BK193 hg; replace BK193 := ba_ BK193 hb; clear hb hbox hg; have hnb61 := NB200_193.out; have hnc61 := NB193_200.out; obtain ⟨hcz62_0, hcz62_1, hcz62_2, hcz62_3, hcz62_4, hfz62_0, hfz62_1, hfz62_2, hfz62_3, hfz62_4⟩ := cf5 BK200.out))
          have n0_ : Aside0 ((((((w60.setCell ⟨gb200, 0, none⟩ (.int .i64 ((rd_T100 l0_5 x58_2).f0))).setCell ⟨gb200, 1, none⟩ (.int .i64 ((rd_T100 l0_5 x58_2).f1))).setCell ⟨gb200, 2, none⟩ (.string ((rd_T100 l0_5 x58_2).f2))).setCell ⟨gb200, 3, none⟩ (.bool ((rd_T100 l0_5 x58_2).f3))).setCell ⟨gb200, 4, none⟩ (.slice A199_4 ((rd_T100 l0_5 x58_2).f4).length c199_4)).heap[gb193]? = some (.cells #[.string a0_0, .slice A0_1 l0_1.length c0_1, .slice A0_2 l0_2.length c0_2, .string a0_3, .bool a0_4, .slice (some ad199) l0_5.length c0_5, .slice A0_6 l0_6.length c0_6] 48 (0, 0))) := ⟨by (with_reducible repeat (first | refine blk_drewN ?_ _ | refine blk_drew ?_ | refine blk_alloc ?_ _)); (iterate 5 refine blk_far ?_ NB193_200.out _); (with_reducible repeat (first | refine blk_drewN ?_ _ | refine blk_drew ?_ | refine blk_alloc ?_ _)); exact BK193.out⟩
          have n1_ : Aside0 ((((((w60.setCell ⟨gb200, 0, none⟩ (.int .i64 ((rd_T100 l0_5 x58_2).f0))).setCell ⟨gb200, 1, none⟩ (.int .i64 ((rd_T100 l0_5 x58_2).f1))).setCell ⟨gb200, 2, none⟩ (.string ((rd_T100 l0_5 x58_2).f2))).setCell ⟨gb200, 3, none⟩ (.bool ((rd_T100 l0_5 x58_2).f3))).setCell ⟨gb200, 4, none⟩ (.slice A199_4 ((rd_T100 l0_5 x58_2).f4).length c199_4)).heap[gb200]? = some (.cells #[.int .i64 ((rd_T100 l0_5 x58_2).f0), .int .i64 ((rd_T100 l0_5 x58_2).f1), .string ((rd_T100 l0_5 x58_2).f2), .bool ((rd_T100 l0_5 x58_2).f3), .slice A199_4 ((rd_T100 l0_5 x58_2).f4).length c199_4] 100 (0, 0))) := ⟨by (with_reducible repeat (first | refine blk_drewN ?_ _ | refine blk_drew ?_ | refine blk_alloc ?_ _)); exact bp5 BK200.out⟩
          have n2_ : Aside0 (Below w.heap.size w (((((w60.setCell ⟨gb200, 0, none⟩ (.int .i64 ((rd_T100 l0_5 x58_2).f0))).setCell ⟨gb200, 1, none⟩ (.int .i64 ((rd_T100 l0_5 x58_2).f1))).setCell ⟨gb200, 2, none⟩ (.string ((rd_T100 l0_5 x58_2).f2))).setCell ⟨gb200, 3, none⟩ (.bool ((rd_T100 l0_5 x58_2).f3))).setCell ⟨gb200, 4, none⟩ (.slice A199_4 ((rd_T100 l0_5 x58_2).f4).length c199_4))) := ⟨by repeat (first | (with_reducible first | exact HB.out | apply below_alloc | apply pw_below_drewN | apply below_drew1 | refine below_set ?_ GE193.out | refine below_set ?_ GE200.out) | exact HB.out | (with_reducible exact Below.refl _ _))⟩
          (try clear BK193); (try clear BK200); (try clear HB); generalize (((((w60.setCell ⟨gb200, 0, none⟩ (.int .i64 ((rd_T100 l0_5 x58_2).f0))).setCell ⟨gb200, 1, none⟩ (.int .i64 ((rd_T100 l0_5 x58_2).f1))).setCell ⟨gb200, 2, none⟩ (.string ((rd_T100 l0_5 x58_2).f2))).setCell ⟨gb200, 3, none⟩ (.bool ((rd_T100 l0_5 x58_2).f3))).setCell ⟨gb200, 4, none⟩ (.slice A199_4 ((rd_T100 l0_5 x58_2).f4).length c199_4)) = w63 at n0_ n1_ n2_ ⊢; have BK193 := n0_; have BK200 := n1_; have HB := n2_; clear n0_ n1_ n2_; replace BK193 := Aside0.mk (blk_drew BK193.out); replace BK200 := Aside0.mk (blk_drew BK200.out); replace HB := Aside0.mk (below_drew1 HB.out); refine start_ (n := 29) (S := fun w' => w'.cell? ⟨gb200, 0, none⟩ = some (.int .i64 ((rd_T100 l0_5 x58_2).f0)) ∧ w'.cell? ⟨gb200, 1, none⟩ = some (.int .i64 ((rd_T100 l0_5 x58_2).f1)) ∧ w'.cell? ⟨gb200, 2, none⟩ = some (.string ((rd_T100 l0_5 x58_2).f2)) ∧ w'.cell? ⟨gb200, 3, none⟩ = some (.bool ((rd_T100 l0_5 x58_2).f3)) ∧ w'.cell? ⟨gb200, 4, none⟩ = some (.slice A199_4 ((rd_T100 l0_5 x58_2).f4).length c199_4)) (ds := []) (mqN 29 0) (by kernel_rfl) rfl rfl ⟨(blk_cell BK200.out 0).trans rfl, (blk_cell BK200.out 1).trans rfl, (blk_cell BK200.out 2).trans rfl, (blk_cell BK200.out 3).trans rfl, (blk_cell BK200.out 4).trans rfl⟩ (fun hHeld => ?_); refine with_tabW impl_GoodSession.tab6 impl_GoodSession.bits6 (fun HT_ HW_ => ?_); generalize w63.drew = w64 at BK193 BK200 HB hHeld ⊢; refine pV 0 62 (mqN 29 1) ?_ rfl rfl (any_of HT_.out (by kernel_rfl)) (fun _ _ _ h => h) (Or.inl ⟨by rfl, ?_⟩) ?_ ?_ ?_; rotate_left
          ·intro w'; go_simp; with_reducible rfl
          rotate_left
          ·simp only [Act.put, setA, set0, setS, i64_w]; rfl
          refine take_ (i := 1) (N := some 63) (v := ?_) (a' := ?_) (mqN 29 2) rfl rfl (take_ofW HT_.out HW_.out (by kernel_rfl)) (fun _ _ _ h => h) (Or.inl ⟨by rfl, ?_⟩) hHeld ?_ ?_; rotate_left
          ·rintro w' ⟨s0, s1, s2, s3, s4⟩
           go_simp; with_reducible rfl
          rotate_left
          ·simp only [Act.put, setA, set0, setS, i64_w]; rfl
          refine pV 2 64 (mqN 29 3) ?_ rfl rfl (any_of HT_.out (by kernel_rfl)) (fun _ _ _ h => h) (Or.inl ⟨by rfl, ?_⟩) ?_ ?_ ?_; rotate_left
          ·intro w'; go_simp; with_reducible rfl
          rotate_left
          ·simp only [Act.put, setA, set0, setS, i64_w]; rfl
          refine pV 3 65 (mqN 29 4) ?_ rfl rfl (any_of HT_.out (by kernel_rfl)) (fun _ _ _ h => h) (Or.inl ⟨by rfl, ?_⟩) ?_ ?_ ?_; rotate_left
          ·intro w'; go_simp; with_reducible rfl
          rotate_left
          ·simp only [Act.put, setA, set0, setS, i64_w]; rfl
          refine pU 4 66 (mqN 29 5) rfl rfl (any_of HT_.out (by kernel_rfl)) (fun _ _ _ h => h) (Or.inr ⟨by rfl, rfl⟩) ?_ ?_ ?_; rotate_left
          ·simp only [Act.put, setA, set0, setS, i64_w]; rfl
          refine pU 5 67 (mqN 29 6) rfl rfl (any_of HT_.out (by kernel_rfl)) (fun _ _ _ h => h) (Or.inr ⟨by rfl, rfl⟩) ?_ ?_ ?_; rotate_left
          ·simp only [Act.put, setA, set0, setS, i64_w]; rfl
          refine pU 6 68 (mqN 29 7) rfl rfl (any_of HT_.out (by kernel_rfl)) (fun _ _ _ h => h) (Or.inr ⟨by rfl, rfl⟩) ?_ ?_ ?_; rotate_left
          ·simp only [Act.put, setA, set0, setS, i64_w]; rfl
          refine pU 7 69 (mqN 29 8) rfl rfl (any_of HT_.out (by kernel_rfl)) (fun _ _ _ h => h) (Or.inr ⟨by rfl, rfl⟩) ?_ ?_ ?_; rotate_left
          ·simp only [Act.put, setA, set0, setS, i64_w]; rfl
          refine pU 8 70 (mqN 29 9) rfl rfl (any_of HT_.out (by kernel_rfl)) (fun _ _ _ h => h) (Or.inr ⟨by rfl, rfl⟩) ?_ ?_ ?_; rotate_left
          ·simp only [Act.put, setA, set0, setS, i64_w]; rfl
          refine pU 9 71 (mqN 29 10) rfl rfl (any_of HT_.out (by kernel_rfl)) (fun _ _ _ h => h) (Or.inr ⟨by rfl, rfl⟩) ?_ ?_ ?_; rotate_left
          ·simp only [Act.put, setA, set0, setS, i64_w]; rfl
          refine pU 10 72 (mqN 29 11) rfl rfl (any_of HT_.out (by kernel_rfl)) (fun _ _ _ h => h) (Or.inr ⟨by rfl, rfl⟩) ?_ ?_ ?_; rotate_left
          ·simp only [Act.put, setA, set0, setS, i64_w]; rfl
          refine pU 11 73 (mqN 29 12) rfl rfl (any_of HT_.out (by kernel_rfl)) (fun _ _ _ h => h) (Or.inr ⟨by rfl, rfl⟩) ?_ ?_ ?_; rotate_left
          ·simp only [Act.put, setA, set0, setS, i64_w]; rfl
          refine pV 12 74 (mqN 29 13) ?_ rfl rfl (any_of HT_.out (by kernel_rfl)) (fun _ _ _ h => h) (Or.inl ⟨by rfl, ?_⟩) ?_ ?_ ?_; rotate_left
          ·intro w'; go_simp; with_reducible rfl
          rotate_left
          ·simp only [Act.put, setA, set0, setS, i64_w]; rfl
          refine pV 13 75 (mqN 29 14) ?_ rfl rfl (any_of HT_.out (by kernel_rfl)) (fun _ _ _ h => h) (Or.inl ⟨by rfl, ?_⟩) ?_ ?_ ?_; rotate_left
          ·intro w'; go_simp; with_reducible rfl
          rotate_left
          ·simp only [Act.put, setA, set0, setS, i64_w]; rfl
          refine pU 14 76 (mqN 29 15) rfl rfl (any_of HT_.out (by kernel_rfl)) (fun _ _ _ h => h) (Or.inr ⟨by rfl, rfl⟩) ?_ ?_ ?_; rotate_left
          ·simp only [Act.put, setA, set0, setS, i64_w]; rfl
          refine pU 15 77 (mqN 29 16) rfl rfl (any_of HT_.out (by kernel_rfl)) (fun _ _ _ h => h) (Or.inr ⟨by rfl, rfl⟩) ?_ ?_ ?_; rotate_left
          ·simp only [Act.put, setA, set0, setS, i64_w]; rfl
          refine pU 16 78 (mqN 29 17) rfl rfl (any_of HT_.out (by kernel_rfl)) (fun _ _ _ h => h) (Or.inr ⟨by rfl, rfl⟩) ?_ ?_ ?_; rotate_left
          ·simp only [Act.put, setA, set0, setS, i64_w]; rfl
          refine pU 17 79 (mqN 29 18) rfl rfl (any_of HT_.out (by kernel_rfl)) (fun _ _ _ h => h) (Or.inr ⟨by rfl, rfl⟩) ?_ ?_ ?_; rotate_left
          ·simp only [Act.put, setA, set0, setS, i64_w]; rfl
          refine pU 18 80 (mqN 29 19) rfl rfl (any_of HT_.out (by kernel_rfl)) (fun _ _ _ h => h) (Or.inr ⟨by rfl, rfl⟩) ?_ ?_ ?_; rotate_left
          ·simp only [Act.put, setA, set0, setS, i64_w]; rfl
          refine pU 19 81 (mqN 29 20) rfl rfl (any_of HT_.out (by kernel_rfl)) (fun _ _ _ h => h) (Or.inr ⟨by rfl, rfl⟩) ?_ ?_ ?_; rotate_left
          ·simp only [Act.put, setA, set0, setS, i64_w]; rfl
          refine pU 20 82 (mqN 29 21) rfl rfl (any_of HT_.out (by kernel_rfl)) (fun _ _ _ h => h) (Or.inr ⟨by rfl, rfl⟩) ?_ ?_ ?_; rotate_left
          ·simp only [Act.put, setA, set0, setS, i64_w]; rfl
          refine pU 21 83 (mqN 29 22) rfl rfl (any_of HT_.out (by kernel_rfl)) (fun _ _ _ h => h) (Or.inr ⟨by rfl, rfl⟩) ?_ ?_ ?_; rotate_left
          ·simp only [Act.put, setA, set0, setS, i64_w]; rfl
          refine pV 22 84 (mqN 29 23) ?_ rfl rfl (any_of HT_.out (by kernel_rfl)) (fun _ _ _ h => h) (Or.inl ⟨by rfl, ?_⟩) ?_ ?_ ?_; rotate_left
          ·intro w'; go_simp; with_reducible rfl
          rotate_left
          ·simp only [Act.put, setA, set0, setS, i64_w]; rfl
          refine pV 23 85 (mqN 29 24) ?_ rfl rfl (any_of HT_.out (by kernel_rfl)) (fun _ _ _ h => h) (Or.inl ⟨by rfl, ?_⟩) ?_ ?_ ?_; rotate_left
          ·intro w'; go_simp; with_reducible rfl
          rotate_left
          ·simp only [Act.put, setA, set0, setS, i64_w]; rfl
          refine pU 24 86 (mqN 29 25) rfl rfl (any_of HT_.out (by kernel_rfl)) (fun _ _ _ h => h) (Or.inr ⟨by rfl, rfl⟩) ?_ ?_ ?_; rotate_left
          ·simp only [Act.put, setA, set0, setS, i64_w]; rfl
          refine pU 25 87 (mqN 29 26) rfl rfl (any_of HT_.out (by kernel_rfl)) (fun _ _ _ h => h) (Or.inr ⟨by rfl, rfl⟩) ?_ ?_ ?_; rotate_left
          ·simp only [Act.put, setA, set0, setS, i64_w]; rfl
          refine pU 26 88 (mqN 29 27) rfl rfl (any_of HT_.out (by kernel_rfl)) (fun _ _ _ h => h) (Or.inr ⟨by rfl, rfl⟩) ?_ ?_ ?_; rotate_left
          ·simp only [Act.put, setA, set0, setS, i64_w]; rfl
          refine pU 27 89 (mqN 29 28) rfl rfl (any_of HT_.out (by kernel_rfl)) (fun _ _ _ h => h) (Or.inr ⟨by rfl, rfl⟩) ?_ ?_ ?_; rotate_left
          ·simp only [Act.put, setA, set0, setS, i64_w]; rfl
          refine pV 28 90 (mqN 29 29) ?_ rfl rfl (any_of HT_.out (by kernel_rfl)) (fun _ _ _ h => h) (Or.inl ⟨by rfl, ?_⟩) ?_ ?_ ?_; rotate_left
          ·intro w'; go_simp; with_reducible rfl
          rotate_left
          ·simp only [Act.put, setA, set0, setS, i64_w]; rfl
          refine done_ (done_of HT_.out (by kernel_rfl)) ?_; try go_wp2
          go_ret; exact ⟨by first | rfl | (simp [errW_none, errW_some] <;> rfl) | (simp [*, errW_none, errW_some] <;> rfl), by repeat (first | (with_reducible first | exact HB.out | apply below_alloc | apply pw_below_drewN | apply below_drew1 | refine below_set ?_ GE193.out | refine below_set ?_ GE200.out) | exact HB.out | (with_reducible exact Below.refl _ _))⟩
        ·rw [if_neg c30] at H; exact absurd H (by simp)
       ·rw [if_neg c29] at H; exact absurd H (by simp)
      ·rw [if_neg c28] at H; have c28b0 : decide (x58_2 < (l0_5.length : Int)) = false := decide_eq_false c28; clear c28; have H' := Aside0.mk H; clear H; obtain ⟨hcz65_0, hcz65_1, hcz65_2, hcz65_3, hcz65_4, hcz65_5, hcz65_6, hfz65_0, hfz65_1, hfz65_2, hfz65_3, hfz65_4, hfz65_5, hfz65_6⟩ := cf7 BK193.out; go_wp2
       go_loopg [95] k2 (fun kq v95 w' => ∃ (x95_3 : Int), v95 = .int .i64 x95_3 ∧ Aside0 (impl_GoodSession.l1 kq l0_6 (l0_6.length : Int) x95_3 a0_0 l0_1 l0_2 a0_3 a0_4 l0_5 l0_6 = some r) ∧ Aside0 (kq ≤ k2) ∧ Aside0 (w'.heap[gb193]? = some (.cells #[.string a0_0, (.slice A0_1 l0_1.length c0_1), (.slice A0_2 l0_2.length c0_2), .string a0_3, .bool a0_4, (.slice A0_5 l0_5.length c0_5), (.slice A0_6 l0_6.length c0_6)] 48 (0, 0))) ∧ Aside0 (Below w.heap.size w w'))
       case atStart => exact ⟨(0), (by first | rfl | (simp; done) | (simp [*]; done)), H', ⟨Nat.le_refl _⟩, ⟨by (with_reducible repeat (first | refine blk_drewN ?_ _ | refine blk_drew ?_ | refine blk_alloc ?_ _)); exact BK193.out⟩, ⟨by repeat (first | (with_reducible first | exact HB.out | apply below_alloc | apply pw_below_drewN | apply below_drew1 | refine below_set ?_ GE193.out) | exact HB.out | (with_reducible exact Below.refl _ _))⟩⟩
       case round =>
        clear H'; try clear c1
        try clear p1
        try clear q1
        try clear hx1
        try clear c2
        try clear p2
        try clear c3
        try clear c5
        try clear c6
        try clear p6
        try clear c8
        try clear c19
        try clear p19
        try clear q19
        try clear hx19
        try clear c28
        try clear c28b0
        try clear c29
        try clear c30
        try clear c31
        try clear c31b0
        try clear c31b1
        try clear c33
        try clear c36
        try clear c56
        try clear c61
        try clear p64
        try clear hcz57_0
        try clear hcz57_1
        try clear hcz57_2
        try clear hcz57_3
        try clear hcz57_4
        try clear hcz62_0
        try clear hcz62_1
        try clear hcz62_2
        try clear hcz62_3
        try clear hcz62_4
        try clear hcz65_0
        try clear hcz65_1
        try clear hcz65_2
        try clear hcz65_3
        try clear hcz65_4
        try clear hcz65_5
        try clear hcz65_6
        try clear hfz57_0
        try clear hfz57_1
        try clear hfz57_2
        try clear hfz57_3
        try clear hfz57_4
        try clear hfz62_0
        try clear hfz62_1
        try clear hfz62_2
        try clear hfz62_3
        try clear hfz62_4
        try clear hfz65_0
        try clear hfz65_1
        try clear hfz65_2
        try clear hfz65_3
        try clear hfz65_4
        try clear hfz65_5
        try clear hfz65_6
        try clear hx199_0
        try clear hx199_1
        try clear hx199_2
        try clear hx199_3
        try clear hx199_4
        try clear p199
        try clear q199
        obtain ⟨x95_3, rfl, HA, HK3, BK193, HB⟩ := hrel; cases gk with
        | zero => exact absurd HA.out (by simp [impl_GoodSession.l1])
        | succ k3 =>
         have H := HA.out; clear HA; simp only [impl_GoodSession.l1] at H; by_cases c66 : x95_3 < (l0_6.length : Int)
         ·rw [if_pos c66] at H; have c66b0 : decide (x95_3 < (l0_6.length : Int)) = true := decide_eq_true c66; clear c66; by_cases c67 : 0 ≤ x95_3
          ·rw [if_pos c67] at H; have c67b0 : decide (0 ≤ x95_3) = true := decide_eq_true c67; clear c67; by_cases c68 : x95_3 < (l0_6.length : Int)
           ·rw [if_pos c68] at H; have c68b0 : decide (x95_3 < (l0_6.length : Int)) = true := decide_eq_true c68; clear c68; by_cases c69 : ((rd_T100 l0_6 x95_3).f0) = 2
            ·rw [if_pos c69] at H; have c69b0 : (((rd_T100 l0_6 x95_3).f0) == 2) = true := beq_iff_eq.mpr c69; have c69b1 : (((rd_T100 l0_6 x95_3).f0) != 2) = false := bne_eq_false_iff_eq.mpr c69; clear c69; by_cases c70 : ((rd_T100 l0_6 x95_3).f1) = 0
             ·rw [if_pos c70] at H; have c70b0 : (((rd_T100 l0_6 x95_3).f1) == 0) = true := beq_iff_eq.mpr c70; have c70b1 : (((rd_T100 l0_6 x95_3).f1) != 0) = false := bne_eq_false_iff_eq.mpr c70; clear c70; by_cases c71 : ((rd_T100 l0_6 x95_3).f2).toList = ([] : List UInt8)
              ·rw [if_pos c71] at H; have c71b0 : (((rd_T100 l0_6 x95_3).f2).toList == ([] : List UInt8)) = true := beq_iff_eq.mpr c71; have c71b1 : (((rd_T100 l0_6 x95_3).f2).toList != ([] : List UInt8)) = false := bne_eq_false_iff_eq.mpr c71; clear c71; obtain ⟨bq72, hbq72⟩ : ∃ b_ : Bool, b_ = ((rd_T100 l0_6 x95_3).f3) := ⟨_, rfl⟩
               replace H : (if bq72 = true then (some false) else ((impl_below.f k3 ((rd_T100 l0_6 x95_3).f4) l0_2).bind fun t205 => (if t205 = true then (impl_GoodSession.l1 k3 l0_6 (l0_6.length : Int) (wrap64 (x95_3 + 1)) a0_0 l0_1 l0_2 a0_3 a0_4 l0_5 l0_6) else (some false)))) = some r := by rw [← hbq72] at H; exact H
               have Nbq72 := Aside0.mk hbq72; clear hbq72; by_cases c73 : bq72 = true
               ·subst c73; rw [if_pos rfl] at H; obtain rfl := Option.some.inj H; have p203 : 0 ≤ (x95_3 : Int) := of_decide_eq_true (by first | (with_reducible assumption) | assumption); have q203 : x95_3 < (l0_6.length : Int) := of_decide_eq_true (by first | (with_reducible assumption) | assumption); obtain ⟨ad203, A203_4, c203_4, e203, hx203_0, hx203_1, hx203_2, hx203_3, hx203_4, hl203_4, hi203_4⟩ := at_T100 HR0_6.out x95_3 p203 q203; (try rw [← Nbq72.out] at hx203_3); cases e203; replace hx203_0 := (HB.out.cell (World.block_lt_of_cell? w _ hx203_0)).trans hx203_0; replace hx203_1 := (HB.out.cell (World.block_lt_of_cell? w _ hx203_1)).trans hx203_1; replace hx203_2 := (HB.out.cell (World.block_lt_of_cell? w _ hx203_2)).trans hx203_2; replace hx203_3 := (HB.out.cell (World.block_lt_of_cell? w _ hx203_3)).trans hx203_3; replace hx203_4 := (HB.out.cell (World.block_lt_of_cell? w _ hx203_4)).trans hx203_4; have HR203_4 := Aside0.mk hi203_4; have HC203_4 := Aside0.mk hl203_4; clear hi203_4 hl203_4; replace p203 := eq_true p203; replace q203 := eq_true q203; go_wp2_with (first | ((with_reducible refine gate_dst (N := 6) rfl ?_); (try (refine gate_guard (by rfl) ?_; dsimp only)); refine box_event ?hg (N := 6) ?hd (cs := #[.int .i64 0, .int .i64 0, .string (⟨#[]⟩ : ByteArray), .bool false, .slice none 0 0]) (t := 100) ?hr ?_; (case hd => rfl); (case hg => rfl); (case hr => first | (go_simp; done) | (go_simp; rfl)); intro gb204 hg w74 hbox hb; have BK204 := Aside0.mk (hbox); have GW204 := ge_ HB hg; have GE204 := ge_ HB hg; replace HB := hb_ HB hb; have NB193_204 := nl_ BK193 hg; have NB204_193 := ng_ BK193 hg; replace BK193 := ba_ BK193 hb; clear hb hbox hg; have hnb75 := NB204_193.out; have hnc75 := NB193_204.out; obtain ⟨hcz76_0, hcz76_1, hcz76_2, hcz76_3, hcz76_4, hfz76_0, hfz76_1, hfz76_2, hfz76_3, hfz76_4⟩ := cf5 BK204.out)); go_ret; exact ⟨by first | rfl | (simp [errW_none, errW_some] <;> rfl) | (simp [*, errW_none, errW_some] <;> rfl), by repeat (first | (with_reducible first | exact HB.out | apply below_alloc | apply pw_below_drewN | apply below_drew1 | refine below_set ?_ GE193.out | refine below_set ?_ GE204.out) | exact HB.out | (with_reducible exact Below.refl _ _))⟩
               ·replace c73 := Bool.eq_false_iff.mpr c73; subst c73; rw [if_neg (show ¬ (false = true) by decide)] at H; replace H := Option.bind_eq_some_iff.mp H; obtain ⟨t205, A770, H⟩ := H; (try dsimp only at H); have A77 := Aside0.mk A770; clear A770; by_cases c78 : t205 = true
                ·subst c78; rw [if_pos rfl] at H; have H' := Aside0.mk H; clear H; have p203 : 0 ≤ (x95_3 : Int) := of_decide_eq_true (by first | (with_reducible assumption) | assumption); have q203 : x95_3 < (l0_6.length : Int) := of_decide_eq_true (by first | (with_reducible assumption) | assumption); obtain ⟨ad203, A203_4, c203_4, e203, hx203_0, hx203_1, hx203_2, hx203_3, hx203_4, hl203_4, hi203_4⟩ := at_T100 HR0_6.out x95_3 p203 q203; (try rw [← Nbq72.out] at hx203_3); cases e203; replace hx203_0 := (HB.out.cell (World.block_lt_of_cell? w _ hx203_0)).trans hx203_0; replace hx203_1 := (HB.out.cell (World.block_lt_of_cell? w _ hx203_1)).trans hx203_1; replace hx203_2 := (HB.out.cell (World.block_lt_of_cell? w _ hx203_2)).trans hx203_2; replace hx203_3 := (HB.out.cell (World.block_lt_of_cell? w _ hx203_3)).trans hx203_3; replace hx203_4 := (HB.out.cell (World.block_lt_of_cell? w _ hx203_4)).trans hx203_4; have HR203_4 := Aside0.mk hi203_4; have HC203_4 := Aside0.mk hl203_4; clear hi203_4 hl203_4; replace p203 := eq_true p203; replace q203 := eq_true q203; go_wp2_with (first | ((with_reducible refine gate_dst (N := 6) rfl ?_); (try (refine gate_guard (by rfl) ?_; dsimp only)); refine box_event ?hg (N := 6) ?hd (cs := #[.int .i64 0, .int .i64 0, .string (⟨#[]⟩ : ByteArray), .bool false, .slice none 0 0]) (t := 100) ?hr ?_; (case hd => rfl); (case hg => rfl); (case hr => first | (go_simp; done) | (go_simp; rfl)); intro gb204 hg w79 hbox hb; have BK204 := Aside0.mk (hbox); have GW204 := ge_ HB hg; have GE204 := ge_ HB hg; replace HB := hb_ HB hb; have NB193_204 := nl_ BK193 hg; have NB204_193 := ng_ BK193 hg; replace BK193 := ba_ BK193 hb; clear hb hbox hg; have hnb80 := NB204_193.out; have hnc80 := NB193_204.out; obtain ⟨hcz81_0, hcz81_1, hcz81_2, hcz81_3, hcz81_4, hfz81_0, hfz81_1, hfz81_2, hfz81_3, hfz81_4⟩ := cf5 BK204.out; obtain ⟨hcz82_0, hcz82_1, hcz82_2, hcz82_3, hcz82_4, hcz82_5, hcz82_6, hfz82_0, hfz82_1, hfz82_2, hfz82_3, hfz82_4, hfz82_5, hfz82_6⟩ := cf7 BK193.out) | (go_at_call 81; (with_reducible refine (impl_below.calls k3 _ _ ((rd_T100 l0_6 x95_3).f4) _ _ l0_2 true _ ?side1 ?side2 ?side3 ?side4 A77.out).mono ?_); (case side1 => exact Kd.C_below HR203_4.out (by repeat (first | (with_reducible first | exact HB.out | apply below_alloc | apply pw_below_drewN | apply below_drew1 | refine below_set ?_ GE193.out | refine below_set ?_ GE204.out) | exact HB.out | (with_reducible exact Below.refl _ _)))); (case side2 => exact HC203_4.out); (case side3 => exact Kd.C_below HR0_2.out (by repeat (first | (with_reducible first | exact HB.out | apply below_alloc | apply pw_below_drewN | apply below_drew1 | refine below_set ?_ GE193.out | refine below_set ?_ GE204.out) | exact HB.out | (with_reducible exact Below.refl _ _)))); (case side4 => exact HC0_2.out); rintro e w' ⟨rfl, ⟨nd, rfl⟩⟩)); go_roundg k3
                 case measure => have := HJ1.out; have := HK2.out; have := HK3.out; omega
                 case rel => exact ⟨(wrap64 (x95_3 + 1)), (by first | rfl | (simp; done) | (simp [*]; done)), H', ⟨by have := HJ1.out; have := HK2.out; have := HK3.out; omega⟩, ⟨by (with_reducible repeat (first | refine blk_drewN ?_ _ | refine blk_drew ?_ | refine blk_alloc ?_ _)); (iterate 5 refine blk_far ?_ NB193_204.out _); (with_reducible repeat (first | refine blk_drewN ?_ _ | refine blk_drew ?_ | refine blk_alloc ?_ _)); exact BK193.out⟩, ⟨by repeat (first | (with_reducible first | exact HB.out | apply below_alloc | apply pw_below_drewN | apply below_drew1 | refine below_set ?_ GE193.out | refine below_set ?_ GE204.out) | exact HB.out | (with_reducible exact Below.refl _ _))⟩⟩
                ·replace c78 := Bool.eq_false_iff.mpr c78; subst c78; rw [if_neg (show ¬ (false = true) by decide)] at H; obtain rfl := Option.some.inj H; have p203 : 0 ≤ (x95_3 : Int) := of_decide_eq_true (by first | (with_reducible assumption) | assumption); have q203 : x95_3 < (l0_6.length : Int) := of_decide_eq_true (by first | (with_reducible assumption) | assumption); obtain ⟨ad203, A203_4, c203_4, e203, hx203_0, hx203_1, hx203_2, hx203_3, hx203_4, hl203_4, hi203_4⟩ := at_T100 HR0_6.out x95_3 p203 q203; (try rw [← Nbq72.out] at hx203_3); cases e203; replace hx203_0 := (HB.out.cell (World.block_lt_of_cell? w _ hx203_0)).trans hx203_0; replace hx203_1 := (HB.out.cell (World.block_lt_of_cell? w _ hx203_1)).trans hx203_1; replace hx203_2 := (HB.out.cell (World.block_lt_of_cell? w _ hx203_2)).trans hx203_2; replace hx203_3 := (HB.out.cell (World.block_lt_of_cell? w _ hx203_3)).trans hx203_3; replace hx203_4 := (HB.out.cell (World.block_lt_of_cell? w _ hx203_4)).trans hx203_4; have HR203_4 := Aside0.mk hi203_4; have HC203_4 := Aside0.mk hl203_4; clear hi203_4 hl203_4; replace p203 := eq_true p203; replace q203 := eq_true q203; go_wp2_with (first | ((with_reducible refine gate_dst (N := 6) rfl ?_); (try (refine gate_guard (by rfl) ?_; dsimp only)); refine box_event ?hg (N := 6) ?hd (cs := #[.int .i64 0, .int .i64 0, .string (⟨#[]⟩ : ByteArray), .bool false, .slice none 0 0]) (t := 100) ?hr ?_; (case hd => rfl); (case hg => rfl); (case hr => first | (go_simp; done) | (go_simp; rfl)); intro gb204 hg w83 hbox hb; have BK204 := Aside0.mk (hbox); have GW204 := ge_ HB hg; have GE204 := ge_ HB hg; replace HB := hb_ HB hb; have NB193_204 := nl_ BK193 hg; have NB204_193 := ng_ BK193 hg; replace BK193 := ba_ BK193 hb; clear hb hbox hg; have hnb84 := NB204_193.out; have hnc84 := NB193_204.out; obtain ⟨hcz85_0, hcz85_1, hcz85_2, hcz85_3, hcz85_4, hfz85_0, hfz85_1, hfz85_2, hfz85_3, hfz85_4⟩ := cf5 BK204.out; obtain ⟨hcz86_0, hcz86_1, hcz86_2, hcz86_3, hcz86_4, hcz86_5, hcz86_6, hfz86_0, hfz86_1, hfz86_2, hfz86_3, hfz86_4, hfz86_5, hfz86_6⟩ := cf7 BK193.out) | (go_at_call 81; (with_reducible refine (impl_below.calls k3 _ _ ((rd_T100 l0_6 x95_3).f4) _ _ l0_2 false _ ?side1 ?side2 ?side3 ?side4 A77.out).mono ?_); (case side1 => exact Kd.C_below HR203_4.out (by repeat (first | (with_reducible first | exact HB.out | apply below_alloc | apply pw_below_drewN | apply below_drew1 | refine below_set ?_ GE193.out | refine below_set ?_ GE204.out) | exact HB.out | (with_reducible exact Below.refl _ _)))); (case side2 => exact HC203_4.out); (case side3 => exact Kd.C_below HR0_2.out (by repeat (first | (with_reducible first | exact HB.out | apply below_alloc | apply pw_below_drewN | apply below_drew1 | refine below_set ?_ GE193.out | refine below_set ?_ GE204.out) | exact HB.out | (with_reducible exact Below.refl _ _)))); (case side4 => exact HC0_2.out); rintro e w' ⟨rfl, ⟨nd, rfl⟩⟩)); go_ret; exact ⟨by first | rfl | (simp [errW_none, errW_some] <;> rfl) | (simp [*, errW_none, errW_some] <;> rfl), by repeat (first | (with_reducible first | exact HB.out | apply below_alloc | apply pw_below_drewN | apply below_drew1 | refine below_set ?_ GE193.out | refine below_set ?_ GE204.out) | exact HB.out | (with_reducible exact Below.refl _ _))⟩
              ·rw [if_neg c71] at H; have c71b0 : (((rd_T100 l0_6 x95_3).f2).toList == ([] : List UInt8)) = false := beq_eq_false_iff_ne.mpr c71; have c71b1 : (((rd_T100 l0_6 x95_3).f2).toList != ([] : List UInt8)) = true := bne_iff_ne.mpr c71; obtain rfl := Option.some.inj H; have p203 : 0 ≤ (x95_3 : Int) := of_decide_eq_true (by first | (with_reducible assumption) | assumption); have q203 : x95_3 < (l0_6.length : Int) := of_decide_eq_true (by first | (with_reducible assumption) | assumption); obtain ⟨ad203, A203_4, c203_4, e203, hx203_0, hx203_1, hx203_2, hx203_3, hx203_4, hl203_4, hi203_4⟩ := at_T100 HR0_6.out x95_3 p203 q203; cases e203; replace hx203_0 := (HB.out.cell (World.block_lt_of_cell? w _ hx203_0)).trans hx203_0; replace hx203_1 := (HB.out.cell (World.block_lt_of_cell? w _ hx203_1)).trans hx203_1; replace hx203_2 := (HB.out.cell (World.block_lt_of_cell? w _ hx203_2)).trans hx203_2; replace hx203_3 := (HB.out.cell (World.block_lt_of_cell? w _ hx203_3)).trans hx203_3; replace hx203_4 := (HB.out.cell (World.block_lt_of_cell? w _ hx203_4)).trans hx203_4; have HR203_4 := Aside0.mk hi203_4; have HC203_4 := Aside0.mk hl203_4; clear hi203_4 hl203_4; replace p203 := eq_true p203; replace q203 := eq_true q203; go_wp2_with (first | ((with_reducible refine gate_dst (N := 6) rfl ?_); (try (refine gate_guard (by rfl) ?_; dsimp only)); refine box_event ?hg (N := 6) ?hd (cs := #[.int .i64 0, .int .i64 0, .string (⟨#[]⟩ : ByteArray), .bool false, .slice none 0 0]) (t := 100) ?hr ?_; (case hd => rfl); (case hg => rfl); (case hr => first | (go_simp; done) | (go_simp; rfl)); intro gb204 hg w87 hbox hb; have BK204 := Aside0.mk (hbox); have GW204 := ge_ HB hg; have GE204 := ge_ HB hg; replace HB := hb_ HB hb; have NB193_204 := nl_ BK193 hg; have NB204_193 := ng_ BK193 hg; replace BK193 := ba_ BK193 hb; clear hb hbox hg; have hnb88 := NB204_193.out; have hnc88 := NB193_204.out; obtain ⟨hcz89_0, hcz89_1, hcz89_2, hcz89_3, hcz89_4, hfz89_0, hfz89_1, hfz89_2, hfz89_3, hfz89_4⟩ := cf5 BK204.out)); go_ret; exact ⟨by first | rfl | (simp [errW_none, errW_some] <;> rfl) | (simp [*, errW_none, errW_some] <;> rfl), by repeat (first | (with_reducible first | exact HB.out | apply below_alloc | apply pw_below_drewN | apply below_drew1 | refine below_set ?_ GE193.out | refine below_set ?_ GE204.out) | exact HB.out | (with_reducible exact Below.refl _ _))⟩
             ·rw [if_neg c70] at H; have c70b0 : (((rd_T100 l0_6 x95_3).f1) == 0) = false := beq_eq_false_iff_ne.mpr c70; have c70b1 : (((rd_T100 l0_6 x95_3).f1) != 0) = true := bne_iff_ne.mpr c70; obtain rfl := Option.some.inj H; have p203 : 0 ≤ (x95_3 : Int) := of_decide_eq_true (by first | (with_reducible assumption) | assumption); have q203 : x95_3 < (l0_6.length : Int) := of_decide_eq_true (by first | (with_reducible assumption) | assumption); obtain ⟨ad203, A203_4, c203_4, e203, hx203_0, hx203_1, hx203_2, hx203_3, hx203_4, hl203_4, hi203_4⟩ := at_T100 HR0_6.out x95_3 p203 q203; cases e203; replace hx203_0 := (HB.out.cell (World.block_lt_of_cell? w _ hx203_0)).trans hx203_0; replace hx203_1 := (HB.out.cell (World.block_lt_of_cell? w _ hx203_1)).trans hx203_1; replace hx203_2 := (HB.out.cell (World.block_lt_of_cell? w _ hx203_2)).trans hx203_2; replace hx203_3 := (HB.out.cell (World.block_lt_of_cell? w _ hx203_3)).trans hx203_3; replace hx203_4 := (HB.out.cell (World.block_lt_of_cell? w _ hx203_4)).trans hx203_4; have HR203_4 := Aside0.mk hi203_4; have HC203_4 := Aside0.mk hl203_4; clear hi203_4 hl203_4; replace p203 := eq_true p203; replace q203 := eq_true q203; go_wp2_with (first | ((with_reducible refine gate_dst (N := 6) rfl ?_); (try (refine gate_guard (by rfl) ?_; dsimp only)); refine box_event ?hg (N := 6) ?hd (cs := #[.int .i64 0, .int .i64 0, .string (⟨#[]⟩ : ByteArray), .bool false, .slice none 0 0]) (t := 100) ?hr ?_; (case hd => rfl); (case hg => rfl); (case hr => first | (go_simp; done) | (go_simp; rfl)); intro gb204 hg w90 hbox hb; have BK204 := Aside0.mk (hbox); have GW204 := ge_ HB hg; have GE204 := ge_ HB hg; replace HB := hb_ HB hb; have NB193_204 := nl_ BK193 hg; have NB204_193 := ng_ BK193 hg; replace BK193 := ba_ BK193 hb; clear hb hbox hg; have hnb91 := NB204_193.out; have hnc91 := NB193_204.out; obtain ⟨hcz92_0, hcz92_1, hcz92_2, hcz92_3, hcz92_4, hfz92_0, hfz92_1, hfz92_2, hfz92_3, hfz92_4⟩ := cf5 BK204.out)); go_ret; exact ⟨by first | rfl | (simp [errW_none, errW_some] <;> rfl) | (simp [*, errW_none, errW_some] <;> rfl), by repeat (first | (with_reducible first | exact HB.out | apply below_alloc | apply pw_below_drewN | apply below_drew1 | refine below_set ?_ GE193.out | refine below_set ?_ GE204.out) | exact HB.out | (with_reducible exact Below.refl _ _))⟩
            ·rw [if_neg c69] at H; have c69b0 : (((rd_T100 l0_6 x95_3).f0) == 2) = false := beq_eq_false_iff_ne.mpr c69; have c69b1 : (((rd_T100 l0_6 x95_3).f0) != 2) = true := bne_iff_ne.mpr c69; obtain rfl := Option.some.inj H; have p203 : 0 ≤ (x95_3 : Int) := of_decide_eq_true (by first | (with_reducible assumption) | assumption); have q203 : x95_3 < (l0_6.length : Int) := of_decide_eq_true (by first | (with_reducible assumption) | assumption); obtain ⟨ad203, A203_4, c203_4, e203, hx203_0, hx203_1, hx203_2, hx203_3, hx203_4, hl203_4, hi203_4⟩ := at_T100 HR0_6.out x95_3 p203 q203; cases e203; replace hx203_0 := (HB.out.cell (World.block_lt_of_cell? w _ hx203_0)).trans hx203_0; replace hx203_1 := (HB.out.cell (World.block_lt_of_cell? w _ hx203_1)).trans hx203_1; replace hx203_2 := (HB.out.cell (World.block_lt_of_cell? w _ hx203_2)).trans hx203_2; replace hx203_3 := (HB.out.cell (World.block_lt_of_cell? w _ hx203_3)).trans hx203_3; replace hx203_4 := (HB.out.cell (World.block_lt_of_cell? w _ hx203_4)).trans hx203_4; have HR203_4 := Aside0.mk hi203_4; have HC203_4 := Aside0.mk hl203_4; clear hi203_4 hl203_4; replace p203 := eq_true p203; replace q203 := eq_true q203; go_wp2_with (first | ((with_reducible refine gate_dst (N := 6) rfl ?_); (try (refine gate_guard (by rfl) ?_; dsimp only)); refine box_event ?hg (N := 6) ?hd (cs := #[.int .i64 0, .int .i64 0, .string (⟨#[]⟩ : ByteArray), .bool false, .slice none 0 0]) (t := 100) ?hr ?_; (case hd => rfl); (case hg => rfl); (case hr => first | (go_simp; done) | (go_simp; rfl)); intro gb204 hg w93 hbox hb; have BK204 := Aside0.mk (hbox); have GW204 := ge_ HB hg; have GE204 := ge_ HB hg; replace HB := hb_ HB hb; have NB193_204 := nl_ BK193 hg; have NB204_193 := ng_ BK193 hg; replace BK193 := ba_ BK193 hb; clear hb hbox hg; have hnb94 := NB204_193.out; have hnc94 := NB193_204.out; obtain ⟨hcz95_0, hcz95_1, hcz95_2, hcz95_3, hcz95_4, hfz95_0, hfz95_1, hfz95_2, hfz95_3, hfz95_4⟩ := cf5 BK204.out)); go_ret; exact ⟨by first | rfl | (simp [errW_none, errW_some] <;> rfl) | (simp [*, errW_none, errW_some] <;> rfl), by repeat (first | (with_reducible first | exact HB.out | apply below_alloc | apply pw_below_drewN | apply below_drew1 | refine below_set ?_ GE193.out | refine below_set ?_ GE204.out) | exact HB.out | (with_reducible exact Below.refl _ _))⟩
           ·rw [if_neg c68] at H; exact absurd H (by simp)
          ·rw [if_neg c67] at H; exact absurd H (by simp)
         ·rw [if_neg c66] at H; have c66b0 : decide (x95_3 < (l0_6.length : Int)) = false := decide_eq_false c66; clear c66; obtain rfl := Option.some.inj H; go_wp2; go_ret; exact ⟨by first | rfl | (simp [errW_none, errW_some] <;> rfl) | (simp [*, errW_none, errW_some] <;> rfl), by repeat (first | (with_reducible first | exact HB.out | apply below_alloc | apply pw_below_drewN | apply below_drew1 | refine below_set ?_ GE193.out) | exact HB.out | (with_reducible exact Below.refl _ _))⟩
end Go.Proofs.Ytaffjcaohbkmoaa.QFnExactSegmentsLeft
