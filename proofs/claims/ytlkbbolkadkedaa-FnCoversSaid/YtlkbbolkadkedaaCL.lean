import Derived.Test.YtlkbbolkadkedaaCD9
namespace Go.Proofs.Ytlkbbolkadkedaa.QFnCovers
open Go.RowKit Go.Proofs.Ytlkbbolkadkedaa.Pure Go.Proofs.Ytlkbbolkadkedaa.Plain Go.Proofs.YtlkbbolkadkedaaW.PrintWords Go.Proofs.YtlkbbolkadkedaaW.PrintLast Go.Proofs.YtlkbbolkadkedaaW.PrintMore
attribute [local go_sem] max2_int min2_int max_two min_two max_three min_three max_four min_four
set_option linter.unusedVariables false
set_option linter.unusedSimpArgs false
def IRow (b : Nat) (w : World) (v : Value) (l : List Int) : Prop := Kd.R (Kd.int .i64) 3 w b (fun _ => True) v l
theorem IRow.below {b : Nat} {w w1 : World} {v : Value} {l : List Int} (h : IRow b w v l) (hb : Below w.heap.size w w1) : IRow b w1 v l := Kd.R_below h hb
theorem IRow.C {b : Nat} {w : World} {A : Option Addr} {cap : Nat} {l : List Int} (h : IRow b w (.slice A l.length cap) l) : Kd.C (Kd.int .i64) w A l.length l := (Kd.R_reads' h).2.2
theorem sameP (l : List S46) (hl : l.length ≤ 60) (A A' : Option Addr) (cap cap' : Nat) (w : World) (hC : Kd.C k46 w A l.length l) (hc : l.length ≤ cap) (hC' : Kd.C k46 w A' l.length l) (hc' : l.length ≤ cap') : Calls Try.prog 36 #[.agg #[.slice A l.length cap], .agg #[.slice A' l.length cap']] w fun e w' => e = .returned (.bool true) ∧ Below w.heap.size w w' := by
  obtain ⟨K, hK⟩ := samePiles_self l (by omega)
  exact laws_samePiles.calls K A cap l A' cap' l true w hC hc hC' hc' (hK K (Nat.le_refl _))
theorem goodB (l : List S46) (hl : l.length ≤ 60) (ho : ∀ y ∈ l, Ok8 y) : ∃ b : Bool, (b = true ↔ PileFrom l 0 ∧ l.length ≤ 60) ∧
    (∀ (A : Option Addr) (cap : Nat) (w : World), Kd.C k46 w A l.length l → l.length ≤ cap → Calls Try.prog 13 #[.agg #[.slice A l.length cap]] w fun e w' => e = .returned (.bool b) ∧ Below w.heap.size w w') ∧
    (∀ (A : Option Addr) (cap : Nat) (w : World), Kd.C k46 w A l.length l → l.length ≤ cap → Calls Try.prog 11 #[.agg #[.slice A l.length cap]] w fun e w' => e = .returned (.bool b) ∧ Below w.heap.size w w') := by
  obtain ⟨b, ⟨K, hS⟩, ⟨K', hI⟩, h⟩ := pile_both l (by omega) (oks_range ho)
  exact ⟨b, h, fun A cap w hC hc => impl_GoodPile.calls K' A cap l b w hC hc (hI K' (Nat.le_refl _)), fun A cap w hC hc => spec_GoodPile.calls K A cap l b w hC hc (hS K (Nat.le_refl _))⟩
theorem goodT (l : List S46) (hl : l.length ≤ 60) (hp : PileFrom l 0) (A : Option Addr) (cap : Nat) (w : World) (hC : Kd.C k46 w A l.length l) (hc : l.length ≤ cap) : Calls Try.prog 13 #[.agg #[.slice A l.length cap]] w fun e w' => e = .returned (.bool true) ∧ Below w.heap.size w w' := by
  obtain ⟨b, h, hI, _⟩ := goodB l hl (pile_ok8 hp)
  obtain rfl := h.2 ⟨hp, hl⟩
  exact hI A cap w hC hc
theorem covI (l : List S46) (hl : l.length ≤ 60) (hp : PileFrom l 0) : ∃ xs : List Int, xs.length ≤ 100 ∧ (∀ a, a ∈ xs ↔ ∃ x ∈ l, InP x a) ∧ ∀ (A : Option Addr) (cap : Nat) (w : World), Kd.C k46 w A l.length l → l.length ≤ cap → Calls Try.prog 16 #[.agg #[.slice A l.length cap]] w fun e w' => ∃ A' cap', e = .returned (.tuple #[.slice A' xs.length cap', .bool true]) ∧ xs.length ≤ cap' ∧ IRow w.heap.size w' (.slice A' xs.length cap') xs ∧ Below w.heap.size w w' := by
  obtain ⟨b, _, ⟨K', hI⟩, h⟩ := pile_both l (by omega) (oks_range (pile_ok8 hp))
  obtain rfl := h.2 ⟨hp, hl⟩
  obtain ⟨xs, ⟨K, hK⟩, hx, hm⟩ := Pure.covered_told l hl hp ⟨K', hI⟩
  refine ⟨xs, hx, hm, fun A cap w hC hc => (impl_Covered.calls K A cap l xs true w hC hc (hK K (Nat.le_refl _))).mono ?_⟩
  rintro e w' ⟨v0, rfl, hr, hb⟩
  obtain ⟨A', cap', rfl, hc', _⟩ := Kd.R_reads hr
  exact ⟨A', cap', rfl, hc', hr, hb⟩
theorem has_go (xs : List Int) (a : Int) (hl : xs.length ≤ 1000) (d : Nat) : ∀ i : Nat, i + d = xs.length → Ev (fun k => laws_has.l0 k a xs (xs.length : Int) (i : Int)) (decide (a ∈ xs.drop i)) := by
  induction d with
  | zero =>
    intro i hi
    have e : xs.drop i = [] := List.drop_eq_nil_of_le (by omega)
    have t : decide (a ∈ xs.drop i) = false := by rw [e]; simp
    rw [t]
    exact Ev.step (fun k => by rw [laws_has.l0]) (Ev.ite_neg (by omega) (Ev.now _))
  | succ d ih =>
    intro i hi
    have hw : wrap64 ((i : Int) + 1) = ((i + 1 : Nat) : Int) := by rw [w64 (by omega) (by omega)]; omega
    have hr : rd xs (i : Int) = xs[i]'(by omega) := rd_eq xs i (by omega)
    have e : xs.drop i = xs[i]'(by omega) :: xs.drop (i + 1) := List.drop_eq_getElem_cons (by omega)
    by_cases h : rd xs (i : Int) = a
    · have t : decide (a ∈ xs.drop i) = true := decide_eq_true (by rw [e, ← hr, h]; exact List.mem_cons_self)
      rw [t]
      exact Ev.step (fun k => by rw [laws_has.l0]) (Ev.ite_pos (by omega) (Ev.ite_pos (by omega) (Ev.ite_pos (by omega) (Ev.ite_pos h (Ev.now _)))))
    · have t : decide (a ∈ xs.drop i) = decide (a ∈ xs.drop (i + 1)) := by
        rw [e, ← hr]
        simp [List.mem_cons, Ne.symm h]
      rw [t]
      refine Ev.step (fun k => by rw [laws_has.l0]) (Ev.ite_pos (by omega) (Ev.ite_pos (by omega) (Ev.ite_pos (by omega) (Ev.ite_neg h ?_))))
      rw [hw]
      exact ih (i + 1) (by omega)
theorem hasI (xs : List Int) (a : Int) (hl : xs.length ≤ 1000) (A : Option Addr) (cap : Nat) (w : World) (hC : Kd.C (Kd.int .i64) w A xs.length xs) (hc : xs.length ≤ cap) : Calls Try.prog 41 #[.slice A xs.length cap, .int .i64 a] w fun e w' => e = .returned (.bool (decide (a ∈ xs))) ∧ Drawn0 w w' := by
  obtain ⟨K, hK⟩ := has_go xs a hl xs.length 0 (by omega)
  exact laws_has.calls K A cap xs a _ w hC hc (hK K (Nat.le_refl _))
theorem wholeB (l : List S46) (hl : l.length ≤ 60) (ho : ∀ y ∈ l, Ok8 y) : ∃ (n : Int) (b : Bool) (x : S46) (is : Bool), (is = false → x.f9 = (⟨#[]⟩ : ByteArray)) ∧ (is = true → n = 0 ∧ 0 < l.length ∧ GoodP x.f0 x.f1 x.f3 x.f4 x.f5 x.f6 x.f7 x.f8 x.f9.size ∧ (∀ c ∈ l, 0 ≤ c.f7 ∧ c.f7 + c.f9.size ≤ x.f9.size ∧ x.f9.extract c.f7.toNat (c.f7 + c.f9.size).toNat = c.f9)) ∧
    (∀ (A : Option Addr) (cap : Nat) (w : World), Kd.C k46 w A l.length l → l.length ≤ cap → Calls Try.prog 29 #[.agg #[.slice A l.length cap]] w fun e w' => e = .returned (.tuple #[.agg #[.int .i64 x.f0, .int .i64 x.f1, .bool x.f2, .int .i64 x.f3, .int .i64 x.f4, .int .i64 x.f5, .int .i64 x.f6, .int .i64 x.f7, .int .i64 x.f8, .string x.f9], .bool is]) ∧ Below w.heap.size w w') ∧
    (∀ (A : Option Addr) (cap : Nat) (w : World), Kd.C k46 w A l.length l → l.length ≤ cap → Calls Try.prog 28 #[.agg #[.slice A l.length cap]] w fun e w' => e = .returned (.tuple #[.agg #[.int .i64 x.f0, .int .i64 x.f1, .bool x.f2, .int .i64 x.f3, .int .i64 x.f4, .int .i64 x.f5, .int .i64 x.f6, .int .i64 x.f7, .int .i64 x.f8, .string x.f9], .bool is]) ∧ Below w.heap.size w w') ∧
    (∀ (A : Option Addr) (cap : Nat) (w : World), Kd.C k46 w A l.length l → l.length ≤ cap → Calls Try.prog 22 #[.agg #[.slice A l.length cap]] w fun e w' => e = .returned (.tuple #[.int .i64 n, .bool b]) ∧ Below w.heap.size w w') ∧
    (∀ (A : Option Addr) (cap : Nat) (w : World), Kd.C k46 w A l.length l → l.length ≤ cap → Calls Try.prog 21 #[.agg #[.slice A l.length cap]] w fun e w' => e = .returned (.tuple #[.int .i64 n, .bool b]) ∧ Below w.heap.size w w') := by
  obtain ⟨n, b, x, is, ⟨K1, h1⟩, ⟨K2, h2⟩, ⟨K3, h3⟩, ⟨K4, h4⟩, h5, h6⟩ := whole_told l (by omega) (oks_range ho)
  exact ⟨n, b, x, is, h5, h6, fun A cap w hC hc => impl_WholeOf.calls K4 A cap l x.f0 x.f1 x.f2 x.f3 x.f4 x.f5 x.f6 x.f7 x.f8 x.f9 is w hC hc (h4 K4 (Nat.le_refl _)), fun A cap w hC hc => spec_WholeOf.calls K3 A cap l x.f0 x.f1 x.f2 x.f3 x.f4 x.f5 x.f6 x.f7 x.f8 x.f9 is w hC hc (h3 K3 (Nat.le_refl _)), fun A cap w hC hc => impl_MissingIn.calls K2 A cap l n b w hC hc (h2 K2 (Nat.le_refl _)), fun A cap w hC hc => spec_MissingIn.calls K1 A cap l n b w hC hc (h1 K1 (Nat.le_refl _))⟩
theorem goodI (x : S46) (h : GoodP x.f0 x.f1 x.f3 x.f4 x.f5 x.f6 x.f7 x.f8 x.f9.size) (h8 : -9223372036854775808 ≤ x.f8 ∧ x.f8 ≤ 9223372036854775807) (w : World) : Calls Try.prog 39 #[.agg #[.int .i64 x.f0, .int .i64 x.f1, .bool x.f2, .int .i64 x.f3, .int .i64 x.f4, .int .i64 x.f5, .int .i64 x.f6, .int .i64 x.f7, .int .i64 x.f8, .string x.f9]] w fun e w' => e = .returned (.bool true) ∧ Below w.heap.size w w' := by
  obtain ⟨K, hK⟩ := implGood x.f0 x.f1 x.f2 x.f3 x.f4 x.f5 x.f6 x.f7 x.f8 x.f9 h8
  have e := hK K (Nat.le_refl _)
  rw [decide_eq_true h] at e
  exact impl_GoodBundle.calls K x.f0 x.f1 x.f2 x.f3 x.f4 x.f5 x.f6 x.f7 x.f8 x.f9 true w e
end Go.Proofs.Ytlkbbolkadkedaa.QFnCovers
namespace Go.Proofs.Ytlkbbolkadkedaa.QFnCovers
open Go.RowKit Go.Proofs.Ytlkbbolkadkedaa.Pure Go.Proofs.Ytlkbbolkadkedaa.Plain Go.Proofs.YtlkbbolkadkedaaW.PrintWords Go.Proofs.YtlkbbolkadkedaaW.PrintLast Go.Proofs.YtlkbbolkadkedaaW.PrintMore
attribute [local go_sem] max2_int min2_int max_two min_two max_three min_three max_four min_four
set_option linter.unusedVariables false
set_option linter.unusedSimpArgs false
def laws6.T : Bool × List (List Nat × List Nat) := (true, [([], []), ([], []), ([0, 1], [0, 1]), ([2], [2]), ([3], [3]), ([3], [3]), ([4, 5, 3, 3], [3, 4, 5]), ([6, 3], [3, 6]), ([3, 7], [3, 7]), ([8, 6], [8]), ([9], [9]), ([10, 9, 9], [9, 10]), ([9], [9]), ([12, 11, 9], [9, 12]), ([11, 13, 9], [9, 11, 13]), ([9, 14], [9, 14])])
def laws6.B : List Nat := [0, 0, 3, 7, 15, 15, 63, 127, 255, 511, 1023, 2047, 1023, 8191, 16383, 32767]
theorem laws6.tab : rtab .any (opsOf Try.f9 6) = laws6.T := by kernel_rfl
theorem laws6.bits : waitsOk laws6.T.2 laws6.B = true := by kernel_rfl
attribute [local go_sem high] eqA46
set_option maxHeartbeats 200000000 in
set_option maxRecDepth 100000 in
theorem law_run (w : World) (A0 : Option Addr) (c0 : Nat) (l0 : List Int) (A1 : Option Addr) (c1 : Nat) (l1 : List Int) (hr0 : Kd.C (Kd.int .u8) w A0 l0.length l0) (hc0 : l0.length ≤ c0) (hr1 : Kd.C (Kd.int .u8) w A1 l1.length l1) (hc1 : l1.length ≤ c1) (hb0 : ∀ x ∈ l0, 0 ≤ x ∧ x ≤ 255) (hb1 : ∀ x ∈ l1, 0 ≤ x ∧ x ≤ 255) (m0 : l0.length ≤ 140737488351232) (m1 : l1.length ≤ 140737488351232) :
    Calls Try.prog 9 #[.slice A0 l0.length c0, .slice A1 l1.length c1] w fun e w' => e = .returned (.bool true) ∧ Below w.heap.size w w' := by
  have hu29 := Try.underlying29
  have hu46 := Try.underlying46
  have HR0 := Aside0.mk hr0
  have HR1 := Aside0.mk hr1
  have HC0 := Aside0.mk hc0
  have HC1 := Aside0.mk hc1
  have HB0 := Aside0.mk hb0
  have HB1 := Aside0.mk hb1
  clear hr0 hr1 hc0 hc1 hb0 hb1
  by_cases hbig : (1048576 : Int) < (l0.length : Int) + (l1.length : Int)
  · have hbig0 : decide ((1048576 : Int) < (l0.length : Int) + (l1.length : Int)) = true := decide_eq_true hbig
    go_enter Try.func9, Try.ntmps9
    go_wp2
    go_ret
    exact ⟨rfl, Below.refl _ _⟩
  have hbig0 : decide ((1048576 : Int) < (l0.length : Int) + (l1.length : Int)) = false := decide_eq_false hbig
  clear hbig
  go_enter Try.func9, Try.ntmps9
  go_upto_region 4 with (go_at_call 40; go_loud (refine (drawAddPiece_run w A0 c0 l0 HR0.out HB0.out).mono ?_; rintro e w1 ⟨⟨A2, c2, p, b, rfl, hc2, hr2, hp60, hp8, hb8⟩, hb1⟩; have HC2 := Aside0.mk hc2; have RP := Aside0.mk hr2; have HP8 := Aside0.mk hp8; have OB := Aside0.mk hb8; have HB := Aside0.mk hb1; clear hc2 hr2 hp8 hb8 hb1))
  obtain ⟨oc, hoc⟩ : ∃ o, o = Obj.cells #[.slice A2 p.length c2] 29 (0, 0) := ⟨_, rfl⟩
  obtain ⟨od, hod⟩ : ∃ o, o = Obj.cells #[.int .i64 b.f0, .int .i64 b.f1, .bool b.f2, .int .i64 b.f3, .int .i64 b.f4, .int .i64 b.f5, .int .i64 b.f6, .int .i64 b.f7, .int .i64 b.f8, .string b.f9] 46 (0, 0) := ⟨_, rfl⟩
  have hal := below_alloc (below_alloc (Below.refl w1.heap.size w1) oc) od
  have P5 := Aside0.mk (show PBox ((w1.alloc oc).alloc od) w1.heap.size A2 p.length c2 from by rw [hoc]; exact blk_alloc (blk_new _ _) _)
  have B6 := Aside0.mk (show Box ((w1.alloc oc).alloc od) (w1.heap.size + 1) b from by rw [hod]; exact blk_new2 _ _ _)
  have RP2 := Aside0.mk (RP.out.below hal)
  have HBc := Aside0.mk (below_step HB.out hal)
  rw [← hoc, ← hod]
  clear hoc hod hal RP HB
  generalize (w1.alloc oc).alloc od = w2 at *
  generalize hg6 : w1.heap.size + 1 = g6 at *
  generalize w1.heap.size = g5 at *
  obtain ⟨x, ok, hx60, hX, hI, hS⟩ := addB p b hp60 HP8.out OB.out
  have HX := Aside0.mk hX
  have HS := Aside0.mk hS
  have hp5 := (blk_cell P5.out 0).trans rfl
  obtain ⟨hz0, hz1, hz2, hz3, hz4, hz5, hz6, hz7, hz8, hz9, _⟩ := B6.out.all
  clear hX hS
  have HBc_size := HBc.out.size
  go_upto_region 5 with (go_at_call 26; go_loud (refine (hI A2 c2 _ RP2.out.C HC2.out).mono ?_; rintro e w3 ⟨A3, c3, rfl, hc3, hr3, hb3⟩; have HC3 := Aside0.mk hc3; have P5' := Aside0.mk (P5.out.below hb3); have B6' := Aside0.mk (B6.out.below hb3); have RP3 := Aside0.mk (RP2.out.below hb3); have HBd := Aside0.mk (below_step HBc.out hb3); clear hp5 hz0 hz1 hz2 hz3 hz4 hz5 hz6 hz7 hz8 hz9; clear P5 B6 RP2 HBc hI; have hp5 := (blk_cell P5'.out 0).trans rfl; obtain ⟨hz0, hz1, hz2, hz3, hz4, hz5, hz6, hz7, hz8, hz9, _⟩ := B6'.out.all))
  obtain ⟨oc, hoc⟩ : ∃ o, o = Obj.cells #[.slice A3 x.length c3] 29 (0, 0) := ⟨_, rfl⟩
  have hal := below_alloc (Below.refl w3.heap.size w3) oc
  have P7 := Aside0.mk (show PBox (w3.alloc oc) w3.heap.size A3 x.length c3 from by rw [hoc]; exact blk_new _ _)
  have P5 := Aside0.mk (P5'.out.below hal)
  have B6 := Aside0.mk (B6'.out.below hal)
  have RP4 := Aside0.mk (RP3.out.below hal)
  have HBe := Aside0.mk (below_step HBd.out hal)
  have s3 := hb3.size
  have HGW := HBd.out.size
  have RX := Aside0.mk ((Row.lower hr3 (show w.heap.size ≤ w2.heap.size from HBc_size)).below hal)
  rw [← hoc]
  clear hoc hal hr3 hb3 hc3 hp5 hz0 hz1 hz2 hz3 hz4 hz5 hz6 hz7 hz8 hz9 P5' B6' RP3 HBd
  generalize w3.alloc oc = w4 at *
  generalize w3.heap.size = g7 at *
  have hp5 := (blk_cell P5.out 0).trans rfl
  obtain ⟨hz0, hz1, hz2, hz3, hz4, hz5, hz6, hz7, hz8, hz9, _⟩ := B6.out.all
  have HBe_size := HBe.out.size
  go_upto_region 6 with (go_at_call 24; go_loud (refine (HS.out A2 c2 _ RP4.out.C HC2.out).mono ?_; rintro e w5 ⟨A4, c4, rfl, hc4, hr4, hb4⟩; have HC4 := Aside0.mk hc4; have P5' := Aside0.mk (P5.out.below hb4); have P7' := Aside0.mk (P7.out.below hb4); have B6' := Aside0.mk (B6.out.below hb4); have RP5 := Aside0.mk (RP4.out.below hb4); have RX5 := Aside0.mk (RX.out.below hb4); have HBf := Aside0.mk (below_step HBe.out hb4); clear hp5 hz0 hz1 hz2 hz3 hz4 hz5 hz6 hz7 hz8 hz9; clear P5 B6 RP4 HBe HS P7 RX))
  obtain ⟨oc, hoc⟩ : ∃ o, o = Obj.cells #[.slice A4 x.length c4] 29 (0, 0) := ⟨_, rfl⟩
  have hal := below_alloc (Below.refl w5.heap.size w5) oc
  have P9 := Aside0.mk (show PBox (w5.alloc oc) w5.heap.size A4 x.length c4 from by rw [hoc]; exact blk_new _ _)
  have P5 := Aside0.mk (P5'.out.below hal)
  have P7 := Aside0.mk (P7'.out.below hal)
  have B6 := Aside0.mk (B6'.out.below hal)
  have RP6 := Aside0.mk (RP5.out.below hal)
  have RX6 := Aside0.mk (RX5.out.below hal)
  have s4 := HBe_size
  have RY6 := Aside0.mk ((Row.lower hr4 (show w.heap.size ≤ w4.heap.size from s4)).below hal)
  have HBg := Aside0.mk (below_step HBf.out hal)
  rw [← hoc]
  clear hoc hal hr4 hb4 hc4 P5' B6' P7' RP5 RX5 HBf
  generalize w5.alloc oc = w6 at *
  generalize w5.heap.size = g9 at *
  have hp5 := (blk_cell P5.out 0).trans rfl
  have hp7 := (blk_cell P7.out 0).trans rfl
  have hp9 := (blk_cell P9.out 0).trans rfl
  obtain ⟨gb, hgb, hGI, hGS⟩ := goodB p hp60 HP8.out
  have nok : (ok != ok) = false := by simp
  have nog : (gb != gb) = false := by simp
  have HALL := Aside0.mk (below_drew (Below.refl w6.heap.size w6))
  clear hp5 hp7 hp9
  refine start_ (n := 16) (S := (fun w' => w'.cell? ⟨g7, 0, none⟩ = some (.slice A3 x.length c3) ∧ w'.cell? ⟨g9, 0, none⟩ = some (.slice A4 x.length c4) ∧ w'.cell? ⟨g5, 0, none⟩ = some (.slice A2 p.length c2))) (ds := []) #[ff,ff,ff,ff,ff,ff,ff,ff,ff,ff,ff,ff,ff,ff,ff,ff] (by kernel_rfl) rfl rfl ⟨(blk_cell (P7.out.below HALL.out) 0).trans rfl, (blk_cell (P9.out.below HALL.out) 0).trans rfl, (blk_cell (P5.out.below HALL.out) 0).trans rfl⟩ (fun hHeld => ?_); refine with_tabW laws6.tab laws6.bits (fun HT_ HW_ => ?_)
  refine pure_ (i := 0) (N := some 54) (v := ?_) (a' := ?_) #[tt,ff,ff,ff,ff,ff,ff,ff,ff,ff,ff,ff,ff,ff,ff,ff] rfl rfl (any_of HT_.out (by kernel_rfl)) (fun _ _ _ h => h) (Or.inl ⟨by rfl, ?_⟩) ?_ ?_
  rotate_left
  · intro w'
    go_simp
    with_reducible rfl
  rotate_left
  · simp only [Act.put, List.setIfInBounds_toArray, List.set_cons_zero, List.set_cons_succ, i64_w, i32_w]
    rfl
  refine pure_ (i := 1) (N := some 55) (v := ?_) (a' := ?_) #[tt,tt,ff,ff,ff,ff,ff,ff,ff,ff,ff,ff,ff,ff,ff,ff] rfl rfl (any_of HT_.out (by kernel_rfl)) (fun _ _ _ h => h) (Or.inl ⟨by rfl, ?_⟩) ?_ ?_
  rotate_left
  · intro w'
    go_simp
    with_reducible rfl
  rotate_left
  · simp only [Act.put, List.setIfInBounds_toArray, List.set_cons_zero, List.set_cons_succ, i64_w, i32_w]
    rfl
  refine pure_ (i := 2) (N := some 56) (v := ?_) (a' := ?_) #[tt,tt,tt,ff,ff,ff,ff,ff,ff,ff,ff,ff,ff,ff,ff,ff] rfl rfl (any_of HT_.out (by kernel_rfl)) (fun _ _ _ h => h) (Or.inl ⟨by rfl, ?_⟩) ?_ ?_
  rotate_left
  · intro w'
    go_simp
    with_reducible rfl
  rotate_left
  · simp only [Act.put, List.setIfInBounds_toArray, List.set_cons_zero, List.set_cons_succ, i64_w, i32_w]
    rfl
  refine pure_ (i := 3) (N := some 57) (v := ?_) (a' := ?_) #[tt,tt,tt,tt,ff,ff,ff,ff,ff,ff,ff,ff,ff,ff,ff,ff] rfl rfl (any_of HT_.out (by kernel_rfl)) (fun _ _ _ h => h) (Or.inl ⟨by rfl, ?_⟩) ?_ ?_
  rotate_left
  · intro w'
    go_simp
    with_reducible rfl
  rotate_left
  · simp only [Act.put, List.setIfInBounds_toArray, List.set_cons_zero, List.set_cons_succ, i64_w, i32_w]
    rfl
  refine take_ (i := 4) (N := some 58) (v := ?_) (a' := ?_) #[tt,tt,tt,tt,tt,ff,ff,ff,ff,ff,ff,ff,ff,ff,ff,ff] rfl rfl (take_ofW HT_.out HW_.out (by kernel_rfl)) (fun _ _ _ h => h) (Or.inl ⟨by rfl, ?_⟩) hHeld ?_ ?_
  rotate_left
  · rintro w' ⟨s0, s1, s2⟩
    go_simp
    with_reducible rfl
  rotate_left
  · simp only [Act.put, List.setIfInBounds_toArray, List.set_cons_zero, List.set_cons_succ, i64_w, i32_w]
    rfl
  refine take_ (i := 5) (N := some 59) (v := ?_) (a' := ?_) #[tt,tt,tt,tt,tt,tt,ff,ff,ff,ff,ff,ff,ff,ff,ff,ff] rfl rfl (take_ofW HT_.out HW_.out (by kernel_rfl)) (fun _ _ _ h => h) (Or.inl ⟨by rfl, ?_⟩) hHeld ?_ ?_
  rotate_left
  · rintro w' ⟨s0, s1, s2⟩
    go_simp
    with_reducible rfl
  rotate_left
  · simp only [Act.put, List.setIfInBounds_toArray, List.set_cons_zero, List.set_cons_succ, i64_w, i32_w]
    rfl
  refine one_ (i := 6) (N := some 60) #[tt,tt,tt,tt,tt,tt,tt,ff,ff,ff,ff,ff,ff,ff,ff,ff] rfl rfl (one_of HT_.out (by kernel_rfl)) (by decide) (fun K hK => ?_)
  refine goes_ Try.func36 (by kernel_rfl) rfl #[.agg #[.slice A3 x.length c3], .agg #[.slice A4 x.length c4]] (by rfl) rfl rfl (by (try simp only [List.map_toArray, List.map_cons, List.map_nil]); first | done | rfl | (simp only [List.length_drop, List.length_take]; rfl)) ?_
  refine (sameP x hx60 A3 A4 c3 c4 _ (RX6.out.below HALL.out).C HC3.out (RY6.out.below HALL.out).C HC4.out).mono ?_
  rintro e wz ⟨rfl, hb⟩
  refine ⟨_, rfl, ?_⟩
  have n0_ := Aside0.mk (below_step HALL.out hb)
  clear HALL hb
  have HALL := n0_
  clear n0_
  clear hHeld
  refine hK.out _ _ ⟨(blk_cell (P7.out.below HALL.out) 0).trans rfl, (blk_cell (P9.out.below HALL.out) 0).trans rfl, (blk_cell (P5.out.below HALL.out) 0).trans rfl⟩ (fun hHeld => ?_)
  clear hK K
  refine norm_ (a' := ?_) ?_ ?_
  rotate_left
  · show Act.put _ (some 60) _ = _
    simp only [Act.put, List.setIfInBounds_toArray, List.set_cons_zero, List.set_cons_succ, i64_w, i32_w]
    rfl
  refine pure_ (i := 7) (N := some 61) (v := ?_) (a' := ?_) #[tt,tt,tt,tt,tt,tt,tt,tt,ff,ff,ff,ff,ff,ff,ff,ff] rfl rfl (any_of HT_.out (by kernel_rfl)) (fun _ _ _ h => h) (Or.inl ⟨by rfl, ?_⟩) ?_ ?_
  rotate_left
  · intro w'
    go_simp
    with_reducible rfl
  rotate_left
  · simp only [Act.put, List.setIfInBounds_toArray, List.set_cons_zero, List.set_cons_succ, i64_w, i32_w]
    rfl
  refine pure_ (i := 8) (N := some 62) (v := ?_) (a' := ?_) #[tt,tt,tt,tt,tt,tt,tt,tt,tt,ff,ff,ff,ff,ff,ff,ff] rfl rfl (any_of HT_.out (by kernel_rfl)) (fun _ _ _ h => h) (Or.inl ⟨by rfl, ?_⟩) ?_ ?_
  rotate_left
  · intro w'
    go_simp
    with_reducible rfl
  rotate_left
  · simp only [Act.put, List.setIfInBounds_toArray, List.set_cons_zero, List.set_cons_succ, i64_w, i32_w]
    rfl
  refine pure_ (i := 9) (N := some 63) (v := ?_) (a' := ?_) #[tt,tt,tt,tt,tt,tt,tt,tt,tt,tt,ff,ff,ff,ff,ff,ff] rfl rfl (any_of HT_.out (by kernel_rfl)) (fun _ _ _ h => h) (Or.inl ⟨by rfl, ?_⟩) ?_ ?_
  rotate_left
  · intro w'
    go_simp
    with_reducible rfl
  rotate_left
  · simp only [Act.put, List.setIfInBounds_toArray, List.set_cons_zero, List.set_cons_succ, i64_w, i32_w]
    rfl
  refine take_ (i := 10) (N := some 64) (v := ?_) (a' := ?_) #[tt,tt,tt,tt,tt,tt,tt,tt,tt,tt,tt,ff,ff,ff,ff,ff] rfl rfl (take_ofW HT_.out HW_.out (by kernel_rfl)) (fun _ _ _ h => h) (Or.inl ⟨by rfl, ?_⟩) hHeld ?_ ?_
  rotate_left
  · rintro w' ⟨s0, s1, s2⟩
    go_simp
    with_reducible rfl
  rotate_left
  · simp only [Act.put, List.setIfInBounds_toArray, List.set_cons_zero, List.set_cons_succ, i64_w, i32_w]
    rfl
  refine take_ (i := 12) (N := some 66) (v := ?_) (a' := ?_) #[tt,tt,tt,tt,tt,tt,tt,tt,tt,tt,tt,ff,tt,ff,ff,ff] rfl rfl (take_ofW HT_.out HW_.out (by kernel_rfl)) (fun _ _ _ h => h) (Or.inl ⟨by rfl, ?_⟩) hHeld ?_ ?_
  rotate_left
  · rintro w' ⟨s0, s1, s2⟩
    go_simp
    with_reducible rfl
  rotate_left
  · simp only [Act.put, List.setIfInBounds_toArray, List.set_cons_zero, List.set_cons_succ, i64_w, i32_w]
    rfl
  refine one_ (i := 11) (N := some 65) #[tt,tt,tt,tt,tt,tt,tt,tt,tt,tt,tt,tt,tt,ff,ff,ff] rfl rfl (one_of HT_.out (by kernel_rfl)) (by decide) (fun K hK => ?_)
  refine goes_ Try.func13 (by kernel_rfl) rfl #[.agg #[.slice A2 p.length c2]] (by rfl) rfl rfl (by (try simp only [List.map_toArray, List.map_cons, List.map_nil]); first | done | rfl | (simp only [List.length_drop, List.length_take]; rfl)) ?_
  refine (hGI A2 c2 _ (RP6.out.below HALL.out).C HC2.out).mono ?_
  rintro e wz ⟨rfl, hb⟩
  refine ⟨_, rfl, ?_⟩
  have n0_ := Aside0.mk (below_step HALL.out hb)
  clear HALL hb
  have HALL := n0_
  clear n0_
  clear hHeld
  refine hK.out _ _ ⟨(blk_cell (P7.out.below HALL.out) 0).trans rfl, (blk_cell (P9.out.below HALL.out) 0).trans rfl, (blk_cell (P5.out.below HALL.out) 0).trans rfl⟩ (fun hHeld => ?_)
  clear hK K
  refine norm_ (a' := ?_) ?_ ?_
  rotate_left
  · show Act.put _ (some 65) _ = _
    simp only [Act.put, List.setIfInBounds_toArray, List.set_cons_zero, List.set_cons_succ, i64_w, i32_w]
    rfl
  refine one_ (i := 13) (N := some 67) #[tt,tt,tt,tt,tt,tt,tt,tt,tt,tt,tt,tt,tt,tt,ff,ff] rfl rfl (one_of HT_.out (by kernel_rfl)) (by decide) (fun K hK => ?_)
  refine goes_ Try.func11 (by kernel_rfl) rfl #[.agg #[.slice A2 p.length c2]] (by rfl) rfl rfl (by (try simp only [List.map_toArray, List.map_cons, List.map_nil]); first | done | rfl | (simp only [List.length_drop, List.length_take]; rfl)) ?_
  refine (hGS A2 c2 _ (RP6.out.below HALL.out).C HC2.out).mono ?_
  rintro e wz ⟨rfl, hb⟩
  refine ⟨_, rfl, ?_⟩
  have n0_ := Aside0.mk (below_step HALL.out hb)
  clear HALL hb
  have HALL := n0_
  clear n0_
  clear hHeld
  refine hK.out _ _ ⟨(blk_cell (P7.out.below HALL.out) 0).trans rfl, (blk_cell (P9.out.below HALL.out) 0).trans rfl, (blk_cell (P5.out.below HALL.out) 0).trans rfl⟩ (fun hHeld => ?_)
  clear hK K
  refine norm_ (a' := ?_) ?_ ?_
  rotate_left
  · show Act.put _ (some 67) _ = _
    simp only [Act.put, List.setIfInBounds_toArray, List.set_cons_zero, List.set_cons_succ, i64_w, i32_w]
    rfl
  refine pure_ (i := 14) (N := some 68) (v := ?_) (a' := ?_) #[tt,tt,tt,tt,tt,tt,tt,tt,tt,tt,tt,tt,tt,tt,tt,ff] rfl rfl (any_of HT_.out (by kernel_rfl)) (fun _ _ _ h => h) (Or.inl ⟨by rfl, ?_⟩) ?_ ?_
  rotate_left
  · intro w'
    go_simp
    with_reducible rfl
  rotate_left
  · simp only [Act.put, List.setIfInBounds_toArray, List.set_cons_zero, List.set_cons_succ, i64_w, i32_w]
    rfl
  refine pure_ (i := 15) (N := some 69) (v := ?_) (a' := ?_) #[tt,tt,tt,tt,tt,tt,tt,tt,tt,tt,tt,tt,tt,tt,tt,tt] rfl rfl (any_of HT_.out (by kernel_rfl)) (fun _ _ _ h => h) (Or.inl ⟨by rfl, ?_⟩) ?_ ?_
  rotate_left
  · intro w'
    go_simp
    with_reducible rfl
  rotate_left
  · simp only [Act.put, List.setIfInBounds_toArray, List.set_cons_zero, List.set_cons_succ, i64_w, i32_w]
    rfl
  refine done_ (done_of HT_.out (by kernel_rfl)) ?_
  have Q5 := Aside0.mk (P5.out.below HALL.out)
  have Q7 := Aside0.mk (P7.out.below HALL.out)
  have C6 := Aside0.mk (B6.out.below HALL.out)
  have RP7 := Aside0.mk (RP6.out.below HALL.out)
  have RX7 := Aside0.mk (RX6.out.below HALL.out)
  have HBh := Aside0.mk (below_step HBg.out HALL.out)
  clear HT_ HW_ hHeld HALL P5 P7 P9 B6 RP6 RX6 RY6 HBg hGI hGS HC4 HP8
  go_upto_if 70 with (fail)
  go_cut [] (fun wc => Aside0 (Below w.heap.size w wc))
  case first =>
    cases ok with
    | false =>
      go_wp2
      go_meet
      case rel => exact HBh
    | true =>
      obtain ⟨hx1, hx2⟩ := HX.out
      obtain ⟨hpx, _⟩ := hx1.1 rfl
      obtain ⟨hpp, _, hpb, hcov⟩ := hx2 rfl
      obtain ⟨xs, hxs, hxm, hCX⟩ := covI p hp60 hpp
      obtain ⟨ys, hys, hym, hCY⟩ := covI x hx60 hpx
      have HCX := Aside0.mk hCX
      have HCY := Aside0.mk hCY
      have HG := Aside0.mk (goodT x hx60 hpx)
      have HXM := Aside0.mk hxm
      have HYM := Aside0.mk hym
      have HCOV := Aside0.mk hcov
      have HPB := Aside0.mk hpb
      clear hCX hCY hxm hym hx1 hx2 hcov hpb HX
      have hp5 := (blk_cell Q5.out 0).trans rfl
      have hp7 := (blk_cell Q7.out 0).trans rfl
      go_upto_region 10 with (go_at_call 16; go_loud (refine (HCX.out A2 c2 _ RP7.out.C HC2.out).mono ?_; rintro e wa ⟨A5, c5, rfl, hc5, hr5, hb5⟩; have HC5 := Aside0.mk hc5; have S7 := Aside0.mk (Q7.out.below hb5); have D6 := Aside0.mk (C6.out.below hb5); have RX8 := Aside0.mk (RX7.out.below hb5); have HBi := Aside0.mk (below_step HBh.out hb5); have R5 := Aside0.mk (show IRow w.heap.size wa _ _ from Kd.R_lower hr5 HBh.out.size); clear hp5 hp7; clear Q5 Q7 C6 RP7 RX7 HBh HCX hr5 hb5 hc5; have hp7 := (blk_cell S7.out 0).trans rfl))
      go_upto_region 11 with (go_at_call 16; go_loud (refine (HCY.out A3 c3 _ RX8.out.C HC3.out).mono ?_; rintro e wb ⟨A6, c6, rfl, hc6, hr6, hb6⟩; have HC6 := Aside0.mk hc6; have T7 := Aside0.mk (S7.out.below hb6); have E6 := Aside0.mk (D6.out.below hb6); have RX9 := Aside0.mk (RX8.out.below hb6); have HBj := Aside0.mk (below_step HBi.out hb6); have R5' := Aside0.mk (R5.out.below hb6); have R6 := Aside0.mk (show IRow w.heap.size wb _ _ from Kd.R_lower hr6 HBi.out.size); clear hp7; clear S7 D6 RX8 HBi R5 HCY hr6 hb6 hc6; have hp7 := (blk_cell T7.out 0).trans rfl))
      go_wp2_with (go_at_call 13; go_loud (refine (HG.out A3 c3 _ RX9.out.C HC3.out).mono ?_; rintro e wc ⟨rfl, hb7⟩; have F6 := Aside0.mk (E6.out.below hb7); have HBk := Aside0.mk (below_step HBj.out hb7); have R5 := Aside0.mk (R5'.out.below hb7); have R6' := Aside0.mk (R6.out.below hb7); clear hp7; clear T7 E6 RX9 HBj R5' R6 HG hb7))
      go_loopg [94] (xs.length + 1) (fun kq v94 wr => ∃ x : Int, v94 = .int .i64 x ∧ Aside0 (0 ≤ x ∧ x ≤ (xs.length : Int) ∧ (kq : Int) + x = (xs.length : Int) + 1) ∧ Aside0 (Below wc.heap.size wc wr))
      case atStart => exact ⟨0, rfl, ⟨by omega, by omega, by omega⟩, ⟨Below.refl _ _⟩⟩
      case round =>
        obtain ⟨i, rfl, HI, HBr⟩ := hrel
        have hi := HI.out
        cases gk with
        | zero => omega
        | succ k1 =>
          by_cases ci : i < (xs.length : Int)
          · have cb : decide (i < (xs.length : Int)) = true := decide_eq_true ci
            obtain ⟨am, em, hm⟩ := Kd.at_int (R5.out.below HBr.out).C i hi.1 ci
            have hin : decide (rd xs i ∈ ys) = true := by
              refine decide_eq_true ((HYM.out _).2 ?_)
              obtain ⟨y, hy, h⟩ := (HXM.out _).1 (rd_mem_int xs i hi.1 ci)
              exact (HCOV.out _).2 (.inl ⟨y, hy, h⟩)
            subst em
            generalize rd xs i = z at *
            have p0 : (0 ≤ i) = True := eq_true hi.1
            have p1 : (i < (xs.length : Int)) = True := eq_true ci
            go_wp2_with (go_at_call 41; go_loud (refine (hasI ys z (by omega) A6 c6 _ (R6'.out.below HBr.out).C HC6.out).mono ?_; rintro e wz ⟨rfl, hd⟩; replace hd := hd.below; have HBz := Aside0.mk (below_step HBr.out hd); clear hm HBr hd))
            go_roundg k1
            case measure => omega
            case rel => exact ⟨i + 1, rfl, ⟨by omega, by omega, by omega⟩, ⟨by (with_reducible repeat (first | exact HBz.out | apply pw_below_drewN | apply below_drew1))⟩⟩
          · have cb : decide (i < (xs.length : Int)) = false := decide_eq_false ci
            obtain ⟨hq0, hq1, hq2, hq3, hq4, hq5, hq6, hq7, hq8, hq9, _⟩ := (F6.out.below HBr.out).all
            have tb := HPB.out.told
            have b90 : b.f9.size ≤ 9223372036854775807 := by omega
            have b60 : b.f9.size ≤ 60 := tb.2.2.1
            have o60 : 0 ≤ b.f7 ∧ b.f7 ≤ 60 := ⟨tb.1, tb.2.1⟩
            clear tb
            go_wp2_with ((with_reducible refine gate_dst (N := 105) rfl ?_); (try (refine gate_guard (by rfl) ?_; dsimp only)); refine Kd.V_conv _ 5 rfl (N' := 105) rfl 9 52 _ rfl b.f9 (by first | rfl | (go_simp; done) | (go_simp; rfl)) Try.underlying9 Try.underlying52 Try.underlying5 b90 (ok := fun k_ => wr.heap.size ≤ k_) (Nat.le_refl _) (Below.refl _ _) (Nat.le_refl _) ?_; intro v3 wd ho hb hg_; clear hg_; obtain ⟨A7, c7, e7⟩ := Kd.V_slice ho; clear ho; rw [bytesOf_length] at e7; subst e7; have HBm := Aside0.mk (below_step HBr.out hb); clear hb hq0 hq1 hq2 hq3 hq4 hq5 hq6 hq7 hq8 hq9)
            have T6 := Aside0.mk (F6.out.below HBm.out)
            have R5b := Aside0.mk (R5.out.below HBm.out)
            have R6b := Aside0.mk (R6'.out.below HBm.out)
            have HBn := Aside0.mk (below_step HBk.out HBm.out)
            clear HBm HBr F6 R5 R6' HBk HI hi cb ci
            go_loopg [107] (b.f9.size + 1) (fun kq v107 wr => ∃ x : Int, v107 = .int .i64 x ∧ Aside0 (0 ≤ x ∧ x ≤ (b.f9.size : Int) ∧ (kq : Int) + x = (b.f9.size : Int) + 1) ∧ Aside0 (Below wd.heap.size wd wr))
            case atStart => exact ⟨0, rfl, ⟨by omega, by omega, by omega⟩, ⟨Below.refl _ _⟩⟩
            case round =>
              obtain ⟨i, rfl, HI, HBr⟩ := hrel
              have hi := HI.out
              cases gk with
              | zero => omega
              | succ k1 =>
                obtain ⟨hq0, hq1, hq2, hq3, hq4, hq5, hq6, hq7, hq8, hq9, _⟩ := (T6.out.below HBr.out).all
                by_cases ci : i < (b.f9.size : Int)
                · have cb : decide (i < (b.f9.size : Int)) = true := decide_eq_true ci
                  have hin : decide (b.f7 + i ∈ ys) = true := decide_eq_true ((HYM.out _).2 ((HCOV.out _).2 (.inr ⟨by omega, by omega⟩)))
                  have hw : IntKind.i64.wrap (b.f7 + i) = b.f7 + i := wrap_i64_id (by omega) (by omega)
                  go_wp2_with (go_at_call 41; go_loud (refine (hasI ys (b.f7 + i) (by omega) A6 c6 _ (R6b.out.below HBr.out).C HC6.out).mono ?_; rintro e wz ⟨rfl, hd⟩; replace hd := hd.below; have HBz := Aside0.mk (below_step HBr.out hd); clear HBr hd hq0 hq1 hq2 hq3 hq4 hq5 hq6 hq7 hq8 hq9))
                  go_roundg k1
                  case measure => omega
                  case rel => exact ⟨i + 1, rfl, ⟨by omega, by omega, by omega⟩, ⟨by (with_reducible repeat (first | exact HBz.out | apply pw_below_drewN | apply below_drew1))⟩⟩
                · have cb : decide (i < (b.f9.size : Int)) = false := decide_eq_false ci
                  go_wp2
                  go_loopg [120] (ys.length + 1) (fun kq v120 wq => ∃ x : Int, v120 = .int .i64 x ∧ Aside0 (0 ≤ x ∧ x ≤ (ys.length : Int) ∧ (kq : Int) + x = (ys.length : Int) + 1) ∧ Aside0 (Below wd.heap.size wd wq))
                  case atStart => exact ⟨0, rfl, ⟨by omega, by omega, by omega⟩, ⟨by (with_reducible repeat (first | exact HBr.out | apply pw_below_drewN | apply below_drew1))⟩⟩
                  case round =>
                    clear HI hi ci cb HBr hq0 hq1 hq2 hq3 hq4 hq5 hq6 hq7 hq8 hq9
                    obtain ⟨i, rfl, HI, HBr⟩ := hrel
                    have hi := HI.out
                    cases gk with
                    | zero => omega
                    | succ k1 =>
                      by_cases ci : i < (ys.length : Int)
                      · have cb : decide (i < (ys.length : Int)) = true := decide_eq_true ci
                        obtain ⟨am, em, hm⟩ := Kd.at_int (R6b.out.below HBr.out).C i hi.1 ci
                        have hzz : rd ys i ∈ xs ∨ (b.f7 ≤ rd ys i ∧ rd ys i < b.f7 + (b.f9.size : Int)) := by
                          rcases (HCOV.out _).1 ((HYM.out _).1 (rd_mem_int ys i hi.1 ci)) with h | h
                          · exact .inl ((HXM.out _).2 h)
                          · exact .inr h
                        obtain ⟨hq0, hq1, hq2, hq3, hq4, hq5, hq6, hq7, hq8, hq9, _⟩ := (T6.out.below HBr.out).all
                        subst em
                        generalize rd ys i = z at *
                        have p0 : (0 ≤ i) = True := eq_true hi.1
                        have p1 : (i < (ys.length : Int)) = True := eq_true ci
                        by_cases hz : z ∈ xs
                        · have hzb : decide (z ∈ xs) = true := decide_eq_true hz
                          clear hzz
                          go_wp2_with (go_at_call 41; go_loud (refine (hasI xs z (by omega) A5 c5 _ (R5b.out.below HBr.out).C HC5.out).mono ?_; rintro e wz ⟨rfl, hd⟩; replace hd := hd.below; have HBz := Aside0.mk (below_step HBr.out hd); clear hm HBr hd hq0 hq1 hq2 hq3 hq4 hq5 hq6 hq7 hq8 hq9))
                          go_roundg k1
                          case measure => omega
                          case rel => exact ⟨i + 1, rfl, ⟨by omega, by omega, by omega⟩, ⟨by (with_reducible repeat (first | exact HBz.out | apply pw_below_drewN | apply below_drew1))⟩⟩
                        · have hzb : decide (z ∈ xs) = false := decide_eq_false hz
                          have hz2 := hzz.resolve_left hz
                          clear hzz
                          have d0 : decide (z < b.f7) = false := decide_eq_false (by omega)
                          have hw : IntKind.i64.wrap (b.f7 + (b.f9.size : Int)) = b.f7 + (b.f9.size : Int) := wrap_i64_id (by omega) (by omega)
                          have d1 : decide (b.f7 + (b.f9.size : Int) ≤ z) = false := decide_eq_false (by omega)
                          go_wp2_with (go_at_call 41; go_loud (refine (hasI xs z (by omega) A5 c5 _ (R5b.out.below HBr.out).C HC5.out).mono ?_; rintro e wz ⟨rfl, hd⟩; replace hd := hd.below; have HBz := Aside0.mk (below_step HBr.out hd); clear hm hd hq0 hq1 hq2 hq3 hq4 hq5 hq6 hq7 hq8 hq9; clear HBr; obtain ⟨hq0, hq1, hq2, hq3, hq4, hq5, hq6, hq7, hq8, hq9, _⟩ := (T6.out.below HBz.out).all))
                          go_roundg k1
                          case measure => omega
                          case rel => exact ⟨i + 1, rfl, ⟨by omega, by omega, by omega⟩, ⟨by (with_reducible repeat (first | exact HBz.out | apply pw_below_drewN | apply below_drew1))⟩⟩
                      · have cb : decide (i < (ys.length : Int)) = false := decide_eq_false ci
                        go_wp2
                        go_meet
                        case rel => exact ⟨below_step HBn.out (by (with_reducible repeat (first | exact HBr.out | apply pw_below_drewN | apply below_drew1)))⟩
  case rest =>
    clear Q5 Q7 C6 RP7 RX7 HBh HX hgb nok nog s3 s4 HBc_size HBe_size HGW OB HC2 HC3
    go_upto_region 32 with (go_at_call 42; go_loud (refine (drawWholeOf_run wc A1 c1 l1 (Kd.C_below HR1.out (hcut.out.mono (by have := hcut.out.size; exact Nat.le_refl _))) HB1.out).mono ?_; rintro e wd ⟨⟨B1, d1, q, rfl, hd1, hrq, hq60, hq8⟩, hb⟩; have HD1 := Aside0.mk hd1; have RQ := Aside0.mk (show Row w.heap.size wd _ _ from Row.lower hrq hcut.out.size); have HBd := Aside0.mk (below_step hcut.out hb); have HQ8 := Aside0.mk hq8; clear hd1 hrq hb hq8))
    obtain ⟨oc, hoc⟩ : ∃ o, o = Obj.cells #[.slice B1 q.length d1] 29 (0, 0) := ⟨_, rfl⟩
    have hal := below_alloc (Below.refl wd.heap.size wd) oc
    have P20 := Aside0.mk (show PBox (wd.alloc oc) wd.heap.size B1 q.length d1 from by rw [hoc]; exact blk_new _ _)
    have RQ2 := Aside0.mk (RQ.out.below hal)
    have HBe := Aside0.mk (below_step HBd.out hal)
    rw [← hoc]
    clear hoc hal RQ HBd hcut
    generalize wd.alloc oc = we at *
    generalize wd.heap.size = g20 at *
    obtain ⟨n, mb, y, is, hy0, hy1, hI, hS, hJ, hT⟩ := wholeB q hq60 HQ8.out
    have HNO := Aside0.mk hy0
    have HYES := Aside0.mk hy1
    have HI := Aside0.mk (hI B1 d1)
    have HS := Aside0.mk (hS B1 d1)
    have HJ := Aside0.mk (hJ B1 d1)
    have HT := Aside0.mk (hT B1 d1)
    clear hy0 hy1 hI hS hJ hT HQ8
    have hp := (blk_cell P20.out 0).trans rfl
    go_upto_region 33 with (go_at_call 29; go_loud (refine (HI.out _ RQ2.out.C HD1.out).mono ?_; rintro e wf ⟨rfl, hb⟩))
    obtain ⟨oc, hoc⟩ : ∃ o, o = Obj.cells #[.int .i64 y.f0, .int .i64 y.f1, .bool y.f2, .int .i64 y.f3, .int .i64 y.f4, .int .i64 y.f5, .int .i64 y.f6, .int .i64 y.f7, .int .i64 y.f8, .string y.f9] 46 (0, 0) := ⟨_, rfl⟩
    have hal := below_step hb (below_alloc (Below.refl wf.heap.size wf) oc)
    have B21 := Aside0.mk (show Box (wf.alloc oc) wf.heap.size y from by rw [hoc]; exact blk_new _ _)
    have P20' := Aside0.mk (P20.out.below hal)
    have RQ3 := Aside0.mk (RQ2.out.below hal)
    have HBf := Aside0.mk (below_step HBe.out hal)
    rw [← hoc]
    clear hoc hal hb RQ2 HBe P20 HI hp
    generalize wf.alloc oc = wg at *
    generalize wf.heap.size = g21 at *
    have hp := (blk_cell P20'.out 0).trans rfl
    go_upto_region 34 with (go_at_call 28; go_loud (refine (HS.out _ RQ3.out.C HD1.out).mono ?_; rintro e wh ⟨rfl, hb⟩))
    obtain ⟨oc, hoc⟩ : ∃ o, o = Obj.cells #[.int .i64 y.f0, .int .i64 y.f1, .bool y.f2, .int .i64 y.f3, .int .i64 y.f4, .int .i64 y.f5, .int .i64 y.f6, .int .i64 y.f7, .int .i64 y.f8, .string y.f9] 46 (0, 0) := ⟨_, rfl⟩
    have hal := below_step hb (below_alloc (Below.refl wh.heap.size wh) oc)
    have B23 := Aside0.mk (show Box (wh.alloc oc) wh.heap.size y from by rw [hoc]; exact blk_new _ _)
    have P20 := Aside0.mk (P20'.out.below hal)
    have B21' := Aside0.mk (B21.out.below hal)
    have RQ4 := Aside0.mk (RQ3.out.below hal)
    have HBg := Aside0.mk (below_step HBf.out hal)
    rw [← hoc]
    clear hoc hal hb RQ3 HBf P20' HS hp B21
    generalize wh.alloc oc = wi at *
    generalize wh.heap.size = g23 at *
    have hp := (blk_cell P20.out 0).trans rfl
    go_upto_region 35 with (go_at_call 22; go_loud (refine (HJ.out _ RQ4.out.C HD1.out).mono ?_; rintro e wj ⟨rfl, hb⟩; have Q20 := Aside0.mk (P20.out.below hb); have C21 := Aside0.mk (B21'.out.below hb); have C23 := Aside0.mk (B23.out.below hb); have RQ5 := Aside0.mk (RQ4.out.below hb); have HBh := Aside0.mk (below_step HBg.out hb); clear hp hb; clear P20 B21' B23 RQ4 HBg HJ; have hp := (blk_cell Q20.out 0).trans rfl))
    go_upto_region 36 with (go_at_call 21; go_loud (refine (HT.out _ RQ5.out.C HD1.out).mono ?_; rintro e wk ⟨rfl, hb⟩; have P20 := Aside0.mk (Q20.out.below hb); have B21 := Aside0.mk (C21.out.below hb); have B23 := Aside0.mk (C23.out.below hb); have RQ6 := Aside0.mk (RQ5.out.below hb); have HBi := Aside0.mk (below_step HBh.out hb); clear hp hb; clear Q20 C21 C23 RQ5 HBh HT))
    have hp := (blk_cell P20.out 0).trans rfl
    obtain ⟨hq0, hq1, hq2, hq3, hq4, hq5, hq6, hq7, hq8, hq9, _⟩ := B21.out.all
    obtain ⟨hz0, hz1, hz2, hz3, hz4, hz5, hz6, hz7, hz8, hz9, _⟩ := B23.out.all
    have nis : (is != is) = false := by simp
    have nmb : (mb != mb) = false := by simp
    have nn : (n != n) = false := by simp
    cases is with
    | false =>
      have he : y.f9.toList.isEmpty = true := by rw [isEmpty_size, HNO.out rfl]; rfl
      go_wp2
      repeat (go_quiet (fail); try go_wp2)
      go_ret
      exact ⟨by first | rfl | (simp [he]; done), HBi.out⟩
    | true =>
      obtain ⟨hn0, hql, hyg, hyc⟩ := HYES.out rfl
      subst hn0
      have HYG := Aside0.mk hyg
      have HYC := Aside0.mk hyc
      clear hyg hyc HYES HNO
      go_wp2
      repeat (go_quiet (fail); try go_wp2)
      clear hp hq0 hq1 hq2 hq3 hq4 hq5 hq6 hq7 hq8 hq9 hz0 hz1 hz2 hz3 hz4 hz5 hz6 hz7 hz8 hz9 B23
      go_loopg [193] (q.length + 1) (fun kq v193 wr => ∃ x : Int, v193 = .int .i64 x ∧ Aside0 (0 ≤ x ∧ x ≤ (q.length : Int) ∧ (kq : Int) + x = (q.length : Int) + 1) ∧ Aside0 (Below wk.heap.size wk wr))
      case atStart => exact ⟨0, rfl, ⟨by omega, by omega, by omega⟩, ⟨by (with_reducible repeat (first | exact Below.refl _ _ | apply pw_below_drewN | apply below_drew1))⟩⟩
      case round =>
        obtain ⟨i, rfl, HI, HBr⟩ := hrel
        have hi := HI.out
        cases gk with
        | zero => omega
        | succ k1 =>
          obtain ⟨hq0, hq1, hq2, hq3, hq4, hq5, hq6, hq7, hq8, hq9, _⟩ := (B21.out.below HBr.out).all
          by_cases ci : i < (q.length : Int)
          · have cb : decide (i < (q.length : Int)) = true := decide_eq_true ci
            obtain ⟨ad, e2, hx0, hx1, hx2, hx3, hx4, hx5, hx6, hx7, hx8, hx9⟩ := at_T46 (RQ6.out.below HBr.out).C i hi.1 ci
            obtain ⟨c, hc⟩ : ∃ c, c = rd_T46 q i := ⟨_, rfl⟩
            have hcq := HYC.out _ (rd_mem q i hi.1 ci)
            rw [← hc] at hcq hx0 hx1 hx2 hx3 hx4 hx5 hx6 hx7 hx8 hx9
            subst e2
            clear hc
            have q0 : (0 ≤ i) = True := eq_true hi.1
            have q1 : (i < (q.length : Int)) = True := eq_true ci
            go_upto_region 43 with (fail)
            obtain ⟨oc, hoc⟩ : ∃ o, o = Obj.cells #[.int .i64 c.f0, .int .i64 c.f1, .bool c.f2, .int .i64 c.f3, .int .i64 c.f4, .int .i64 c.f5, .int .i64 c.f6, .int .i64 c.f7, .int .i64 c.f8, .string c.f9] 46 (0, 0) := ⟨_, rfl⟩
            have hal := below_alloc (Below.refl wr.heap.size wr) oc
            have B30 := Aside0.mk (show Box (wr.alloc oc) wr.heap.size c from by rw [hoc]; exact blk_new _ _)
            have HBs := Aside0.mk (below_step HBr.out hal)
            rw [← hoc]
            clear hoc hal HBr hq0 hq1 hq2 hq3 hq4 hq5 hq6 hq7 hq8 hq9 hx0 hx1 hx2 hx3 hx4 hx5 hx6 hx7 hx8 hx9
            generalize wr.alloc oc = ws at *
            generalize wr.heap.size = g30 at *
            have hq9 := (B21.out.below HBs.out).all.2.2.2.2.2.2.2.2.2.1
            have hx7 := B30.out.all.2.2.2.2.2.2.2.1
            have hx9 := B30.out.all.2.2.2.2.2.2.2.2.2.1
            obtain ⟨h70, h7s, hex⟩ := hcq
            have tg : y.f9.size ≤ 60 := by have := HYG.out; unfold GoodP at this; omega
            have hw : IntKind.i64.wrap (c.f7 + (c.f9.size : Int)) = c.f7 + (c.f9.size : Int) := wrap_i64_id (by omega) (by omega)
            have ll0 : (0 ≤ c.f7) = True := eq_true h70
            have ll1 : (c.f7 ≤ c.f7 + (c.f9.size : Int)) = True := eq_true (by omega)
            have ll2 : (c.f7 + (c.f9.size : Int) ≤ (y.f9.size : Int)) = True := eq_true h7s
            go_wp2
            repeat (go_quiet (fail); try go_wp2)
            go_roundg k1
            case measure => omega
            case rel => exact ⟨i + 1, rfl, ⟨by omega, by omega, by omega⟩, ⟨by (with_reducible repeat (first | exact HBs.out | apply pw_below_drewN | apply below_drew1))⟩⟩
          · have cb : decide (i < (q.length : Int)) = false := decide_eq_false ci
            have qlb : decide ((0 : Int) < (q.length : Int)) = true := decide_eq_true (by omega)
            have tg : -9223372036854775808 ≤ y.f8 ∧ y.f8 ≤ 9223372036854775807 := by have := HYG.out; unfold GoodP at this; omega
            go_wp2_with (go_at_call 39; go_loud (refine (goodI y HYG.out tg _).mono ?_; rintro e wz ⟨rfl, hb⟩; have HBz := Aside0.mk (below_step HBr.out hb); have hp := (blk_cell (P20.out.below HBz.out) 0).trans rfl))
            repeat (go_quiet (fail); try go_wp2)
            go_ret
            exact ⟨rfl, below_step HBi.out (by (with_reducible repeat (first | exact HBz.out | apply pw_below_drewN | apply below_drew1)))⟩
end Go.Proofs.Ytlkbbolkadkedaa.QFnCovers
