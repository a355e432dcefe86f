import Derived.Test.YtlkbbolkadkedaaPR
namespace Go.Proofs.Ytlkbbolkadkedaa.QFnPieces
open Go.RowKit Go.Proofs.Ytlkbbolkadkedaa.Pure Go.Proofs.Ytlkbbolkadkedaa.Plain Go.Proofs.YtlkbbolkadkedaaW.PrintWords Go.Proofs.YtlkbbolkadkedaaW.PrintLast Go.Proofs.YtlkbbolkadkedaaW.PrintMore
attribute [local go_sem] max2_int min2_int max_two min_two max_three min_three max_four min_four
set_option linter.unusedVariables false
set_option linter.unusedSimpArgs false
attribute [local go_sem high] eqA46
set_option maxHeartbeats 200000000 in
set_option maxRecDepth 100000 in
theorem law_run (w : World) (A0 : Option Addr) (c0 : Nat) (l0 : List Int) (A1 : Option Addr) (c1 : Nat) (l1 : List Int) (hr0 : Kd.C (Kd.int .u8) w A0 l0.length l0) (hc0 : l0.length ≤ c0) (hr1 : Kd.C (Kd.int .u8) w A1 l1.length l1) (hc1 : l1.length ≤ c1) (hb0 : ∀ x ∈ l0, 0 ≤ x ∧ x ≤ 255) (hb1 : ∀ x ∈ l1, 0 ≤ x ∧ x ≤ 255) (m0 : l0.length ≤ 140737488351232) (m1 : l1.length ≤ 140737488351232) :
    Calls Try.prog 8 #[.slice A0 l0.length c0, .slice A1 l1.length c1] w fun e w' => e = .returned (.bool true) ∧ Below w.heap.size w w' := by
  have hu29 := Try.underlying29
  have hu46 := Try.underlying46
  have HR0 := Aside0.mk hr0
  have HR1 := Aside0.mk hr1
  have HC0 := Aside0.mk hc0
  have HC1 := Aside0.mk hc1
  have HB0 := Aside0.mk hb0
  have HB1 := Aside0.mk hb1
  clear hr0 hr1 hc0 hc1 hb0 hb1
  by_cases hbig : (1048576 : Int) < (l0.length : Int) + (l1.length : Int)
  · have hbig0 : decide ((1048576 : Int) < (l0.length : Int) + (l1.length : Int)) = true := decide_eq_true hbig
    go_enter Try.func8, Try.ntmps8
    go_wp2
    go_ret
    exact ⟨rfl, Below.refl _ _⟩
  have hbig0 : decide ((1048576 : Int) < (l0.length : Int) + (l1.length : Int)) = false := decide_eq_false hbig
  have hs0 : l0.length ≤ 1048576 := by omega
  have hs1 : l1.length ≤ 1048576 := by omega
  go_enter Try.func8, Try.ntmps8
  go_wp2_with (first
    | (go_at_call 31; go_loud (refine (drawCutBundle_run w A0 c0 l0 HR0.out HB0.out).mono ?_; rintro e w1 ⟨⟨b, most, rfl, ob⟩, hb1⟩; have OB := Aside0.mk ob; have HB := Aside0.mk hb1; have HW1 := hb1.size; clear ob hb1))
    | (go_at_call 32; go_loud (obtain ⟨v, ok, hv, hno, hyes, hI, hS⟩ := cutB b OB.out most; have HS := Aside0.mk hS; have HNO := Aside0.mk hno; have HYES := Aside0.mk hyes; have HV := Aside0.mk hv; have BX1 := fun o => Aside0.mk (blk_new w1 o); refine (hI _).mono ?_; clear hI hS hno hyes hv; rintro e w2 ⟨A2, c2, rfl, hc2, hr2, hb2⟩; have BX2 := Aside0.mk (show Box w2 w1.heap.size b from blk_below (BX1 _).out hb2); have HB2 := Aside0.mk (below_step (below_alloc HB.out _) hb2); have R2 := Aside0.mk (Row.lower hr2 (show w1.heap.size + 1 ≤ _ from by simp)); have HC2 := Aside0.mk hc2; clear BX1 HB hr2 hb2 hc2; obtain ⟨hz0, hz1, hz2, hz3, hz4, hz5, hz6, hz7, hz8, hz9, _⟩ := BX2.out.all))
    | (go_at_call 33; go_loud (refine (HS.out _).mono ?_; rintro e w3 ⟨A3, c3, rfl, hc3, hr3, hb3⟩; have BX3 := Aside0.mk (show Box w3 w1.heap.size b from blk_below BX2.out hb3); have HB3 := Aside0.mk (below_step HB2.out hb3); have R2' := Aside0.mk (R2.out.below hb3); have R3 := Aside0.mk hr3; have HC3 := Aside0.mk hc3; have HG := Aside0.mk HB2.out.size; clear BX2 HB2 R2 hr3 hb3 HS hc3 hz0 hz1 hz2 hz3 hz4 hz5 hz6 hz7 hz8 hz9)))
  have HGL := Aside0.mk (blk_lt BX3.out)
  generalize w1.heap.size = g5 at *
  go_loopg [72] (v.length + 1) (fun kq v72 wr => ∃ x : Int, v72 = .int .i64 x ∧ Aside0 (0 ≤ x ∧ x ≤ (v.length : Int) ∧ (kq : Int) + x = (v.length : Int) + 1) ∧ Aside0 (Below w3.heap.size w3 wr))
  case atStart => exact ⟨0, rfl, ⟨by omega, by omega, by omega⟩, ⟨Below.refl _ _⟩⟩
  case round =>
    obtain ⟨x, rfl, HI, HBr⟩ := hrel
    have hi := HI.out
    have hv60 := HV.out
    cases gk with
    | zero => omega
    | succ k1 =>
      by_cases ci : x < (v.length : Int)
      · have cb : decide (x < (v.length : Int)) = true := decide_eq_true ci
        obtain ⟨ad, e2, hx0, hx1, hx2, hx3, hx4, hx5, hx6, hx7, hx8, hx9⟩ := at_T46 (R2'.out.below HBr.out).C x hi.1 ci
        obtain ⟨ae, e3, hy0, hy1, hy2, hy3, hy4, hy5, hy6, hy7, hy8, hy9⟩ := at_T46 (R3.out.below HBr.out).C x hi.1 ci
        subst e2 e3
        have q0 : (0 ≤ x) = True := eq_true hi.1
        have q1 : (x < (v.length : Int)) = True := eq_true ci
        go_wp2
        repeat (go_quiet (fail); try go_wp2)
        go_roundg k1
        case measure => omega
        case rel => exact ⟨x + 1, rfl, ⟨by omega, by omega, by omega⟩, ⟨by (with_reducible repeat (first | exact HBr.out | apply pw_below_drewN | apply below_drew1))⟩⟩
      · have cb : decide (x < (v.length : Int)) = false := decide_eq_false ci
        go_upto_if 85 with (fail)
        have BX4 := Aside0.mk (show Box wr g5 b from blk_below BX3.out HBr.out)
        have HB4 := Aside0.mk (below_step HB3.out HBr.out)
        have R4 := Aside0.mk (R2'.out.below HBr.out)
        clear BX3 HB3 R2' R3 HBr HI hi ci cb HC3 HG HGL
        go_cut [] (fun wc => Aside0 (Below w.heap.size w wc))
        case first =>
          --[[2
          cases ok with
          | false =>
            go_wp2
            go_meet
            case rel => exact HB4
          | true =>
            obtain ⟨wb_, pb_, cb_⟩ := HYES.out rfl
            have hn0 : 0 < v.length := by
              obtain ⟨_, _, _, hs⟩ := wb_
              obtain ⟨y, hy, _⟩ := cb_ 0 (Int.le_refl 0) (by omega)
              exact List.length_pos_of_mem hy
            have HWB := Aside0.mk wb_
            have HPB := Aside0.mk pb_
            have HCB := Aside0.mk cb_
            obtain ⟨s, s0, s1, hN⟩ := numI l1 hs1 HB1.out
            have HN := Aside0.mk hN
            clear HNO HYES hN OB wb_ pb_ cb_ HB0 HR0 HC0 hbig0 hs0 m0
            go_wp2
            have HG5 := blk_lt BX4.out
            have hbl := below_alloc (Below.refl wr.heap.size wr) (Obj.cells #[Value.slice none 0 0] 29)
            have PB0 := Aside0.mk (show PBox (wr.alloc (Obj.cells #[Value.slice none 0 0] 29)) wr.heap.size none 0 0 from blk_new _ _)
            have HBL := Aside0.mk (below_alloc HB4.out (Obj.cells #[Value.slice none 0 0] 29))
            have HGL := HB4.out.size
            have RV := Aside0.mk (fun W (k : KeepBut (wr.alloc (Obj.cells #[Value.slice none 0 0] 29)) W wr.heap.size none) => R4.out.keepUp hbl k (Nat.le_refl _))
            have BV := Aside0.mk (fun W (k : KeepBut (wr.alloc (Obj.cells #[Value.slice none 0 0] 29)) W wr.heap.size none) => (BX4.out.below hbl).keep k (Nat.ne_of_lt HG5))
            have MV := Aside0.mk (fun W (k : KeepBut (wr.alloc (Obj.cells #[Value.slice none 0 0] 29)) W wr.heap.size none) => C_u8_keep HR1.out (below_step HB4.out hbl) k HGL)
            have HLG : wr.heap.size < (wr.alloc (Obj.cells #[Value.slice none 0 0] 29)).heap.size := by simp
            clear BX4 HB4 R4 hbl HR1
            generalize wr.alloc (Obj.cells #[Value.slice none 0 0] 29) = wL at *
            generalize wr.heap.size = g12 at *
            go_loopg [89] (v.length + 1) (fun kq v89 wq => ∃ (x : Int) (l : List S46) (A : Option Addr) (cap : Nat), v89 = .int .i64 x ∧ Aside0 (0 ≤ x ∧ x ≤ (v.length : Int) ∧ (kq : Int) + x = (v.length : Int) + 1) ∧ Aside0 (PileOf b l) ∧ Aside0 (∀ j : Int, 0 ≤ j → j < x → ∀ a, InP (rd_T46 v ((j + s) % (v.length : Int))) a → ∃ y ∈ l, InP y a) ∧ Aside0 (PBox wq g12 A l.length cap) ∧ Aside0 (l.length ≤ cap) ∧ Aside0 (Row wL.heap.size wq (.slice A l.length cap) l) ∧ Aside0 (KeepBut wL wq g12 none) ∧ Aside0 (Below w.heap.size w wq))
            case atStart => exact ⟨0, [], none, 0, rfl, ⟨by omega, by omega, by omega⟩, ⟨fun y hy => absurd hy (by simp), fun j _ hj => absurd hj (by simp), by simp⟩, ⟨fun j h0 h1 => by omega⟩, PB0, ⟨Nat.le_refl _⟩, ⟨Row.nil _ _⟩, ⟨KeepBut.refl _ _ _⟩, HBL⟩
            case round =>
              clear PB0 HBL
              obtain ⟨x, l, A, cap, rfl, HI, HP, HCV, PB, HCP, RP, HK, HBq⟩ := hrel
              have hi := HI.out
              cases gk with
              | zero => omega
              | succ k1 =>
                by_cases ci : x < (v.length : Int)
                · have cb : decide (x < (v.length : Int)) = true := decide_eq_true ci
                  have n0 : ((v.length : Int) == 0) = false := beq_eq_false_iff_ne.2 (by omega)
                  have k0 : 0 ≤ (x + s) % (v.length : Int) := Int.emod_nonneg _ (by omega)
                  have kk1 : (x + s) % (v.length : Int) < (v.length : Int) := Int.emod_lt_of_pos _ (by omega)
                  go_upto_region 20 with (first
                    | (go_at_call 34; go_loud (refine (HN.out A1 c1 _ (MV.out _ HK.out) HC1.out).mono ?_; rintro e wa ⟨rfl, hd⟩; replace hd := hd.below; have PBa := Aside0.mk (PB.out.below hd); have RPa := Aside0.mk (RP.out.below hd); have HKa := Aside0.mk (keep_then HK.out (KeepBut.of_below hd g12 none)); have HBa := Aside0.mk (below_step HBq.out hd); clear PB RP HK HBq hd)))
                  generalize hkx : (x + s) % (v.length : Int) = kx at *
                  have HKX := Aside0.mk hkx
                  obtain ⟨y, hy⟩ : ∃ y, y = rd_T46 v kx := ⟨_, rfl⟩
                  have HYE := Aside0.mk hy
                  obtain ⟨ad, e2, hx0, hx1, hx2, hx3, hx4, hx5, hx6, hx7, hx8, hx9⟩ := at_T46 (RV.out _ HKa.out).C kx k0 kk1
                  have HY := Aside0.mk (HPB.out _ (rd_mem v kx k0 kk1))
                  rw [← hy] at HY hx0 hx1 hx2 hx3 hx4 hx5 hx6 hx7 hx8 hx9
                  subst e2
                  clear hkx hy
                  have q0 : (0 ≤ kx) = True := eq_true k0
                  have q1 : (kx < (v.length : Int)) = True := eq_true kk1
                  go_upto_region 21 with (fail)
                  clear hx0 hx1 hx2 hx3 hx4 hx5 hx6 hx7 hx8 hx9
                  obtain ⟨o, ho⟩ : ∃ o, o = (Obj.cells #[.int .i64 y.f0, .int .i64 y.f1, .bool y.f2, .int .i64 y.f3, .int .i64 y.f4, .int .i64 y.f5, .int .i64 y.f6, .int .i64 y.f7, .int .i64 y.f8, .string y.f9] 46 (0, 0)) := ⟨_, rfl⟩
                  have BY := Aside0.mk (show Box (wa.alloc o) wa.heap.size y from by rw [ho]; exact blk_new _ _)
                  have PBb := Aside0.mk (PBa.out.below (below_alloc (Below.refl wa.heap.size wa) o))
                  have RPb := Aside0.mk (RPa.out.alloc o)
                  have HKb := Aside0.mk (keep_alloc HKa.out o)
                  have HBb := Aside0.mk (below_alloc HBa.out o)
                  have HGW := HKa.out.1
                  have HGX : wa.heap.size < (wa.alloc o).heap.size := by simp
                  rw [← ho]
                  clear PBa RPa HKa HBa ho
                  generalize wa.alloc o = wb at *
                  generalize wa.heap.size = g15 at *
                  go_cut [120] (fun v120 wc => ∃ bb : Bool, v120 = .bool bb ∧ wc = wb ∧ Aside0 (bb = true → x < (l1.length : Int) ∧ 1 < (y.f9.size : Int)))
                  case first =>
                    by_cases cx : x < (l1.length : Int)
                    case neg =>
                      have cxb : decide (x < (l1.length : Int)) = false := decide_eq_false cx
                      go_wp2
                      go_meet
                      case rel => exact ⟨false, rfl, rfl, ⟨fun h => absurd h (by decide)⟩⟩
                    have cxb : decide (x < (l1.length : Int)) = true := decide_eq_true cx
                    obtain ⟨am, em, hm⟩ := Kd.at_int (MV.out _ HKb.out) x hi.1 cx
                    have hzb := HB1.out _ (rd_mem_int l1 x hi.1 cx)
                    subst em
                    generalize rd l1 x = z at *
                    obtain ⟨hz0, hz1⟩ := hzb
                    have p0 : (0 ≤ x) = True := eq_true hi.1
                    have p1 : (x < (l1.length : Int)) = True := eq_true cx
                    by_cases c3 : z % 3 = 0
                    case neg =>
                      have c3b : (z % 3 == 0) = false := beq_eq_false_iff_ne.2 c3
                      go_wp2
                      go_meet
                      case rel => exact ⟨false, rfl, rfl, ⟨fun h => absurd h (by decide)⟩⟩
                    have c3b : (z % 3 == 0) = true := beq_iff_eq.2 c3
                    obtain ⟨_, _, _, _, _, _, _, _, _, hy9, _⟩ := BY.out.all
                    by_cases c4 : (1 : Int) < (y.f9.size : Int)
                    · have c4b : decide ((1 : Int) < (y.f9.size : Int)) = true := decide_eq_true c4
                      go_wp2
                      go_meet
                      case rel => exact ⟨true, rfl, rfl, ⟨fun _ => ⟨cx, c4⟩⟩⟩
                    · have c4b : decide ((1 : Int) < (y.f9.size : Int)) = false := decide_eq_false c4
                      go_wp2
                      go_meet
                      case rel => exact ⟨false, rfl, rfl, ⟨fun h => absurd h (by decide)⟩⟩
                  case rest =>
                    obtain ⟨bb, rfl, rfl, HBB⟩ := hcut
                    go_upto_if 120 with (fail)
                    go_cut [] (fun wc => ∃ (l2 : List S46) (A4 : Option Addr) (cap2 : Nat) (y2 : S46), Aside0 (PileOf b l2) ∧ Aside0 (PartOf b y2) ∧ Aside0 (Box wc g15 y2) ∧ Aside0 (PBox wc g12 A4 l2.length cap2) ∧ Aside0 (l2.length ≤ cap2) ∧ Aside0 (Row wL.heap.size wc (.slice A4 l2.length cap2) l2) ∧ Aside0 (KeepBut wL wc g12 none) ∧ Aside0 (Below w.heap.size w wc) ∧ Aside0 ((∀ q ∈ l, q ∈ l2) ∧ ∀ a, InP y a → InP y2 a ∨ ∃ q ∈ l2, InP q a))
                    case first =>
                      cases bb with
                      | false =>
                        go_wp2
                        go_meet
                        case rel => exact ⟨l, A, cap, y, HP, HY, BY, PBb, HCP, RPb, HKb, HBb, ⟨fun q h => h, fun a h => .inl h⟩⟩
                      | true =>
                        obtain ⟨cx, cy⟩ := HBB.out rfl
                        obtain ⟨am, em, hm⟩ := Kd.at_int (MV.out _ HKb.out) x hi.1 cx
                        have hzb := HB1.out _ (rd_mem_int l1 x hi.1 cx)
                        subst em
                        generalize rd l1 x = z at *
                        obtain ⟨hz0, hz1⟩ := hzb
                        have p0 : (0 ≤ x) = True := eq_true hi.1
                        have p1 : (x < (l1.length : Int)) = True := eq_true cx
                        obtain ⟨hy0, hy1, hy2, hy3, hy4, hy5, hy6, hy7, hy8, hy9, _⟩ := BY.out.all
                        have tp := (HY.out.piece HWB.out).told
                        have m0 := Int.emod_nonneg z (show (y.f9.size : Int) - 1 ≠ 0 by omega)
                        have m1 := Int.emod_lt_of_pos z (show 0 < (y.f9.size : Int) - 1 by omega)
                        obtain ⟨c, d, ss, hss, hsy, hI, _⟩ := cutP y (ok8_part HWB.out HY.out) (1 + z % ((y.f9.size : Int) - 1))
                        obtain rfl := hsy (HY.out.piece HWB.out) (by omega) (by omega)
                        have HSS := Aside0.mk (hss rfl)
                        have HCI := Aside0.mk hI
                        have y60 : y.f9.size ≤ 60 := tp.2.2.1
                        clear hss hsy hI tp
                        go_upto_region 22 with (fail)
                        go_cut [16, 17, 18] (fun v16 v17 v18 we => ∃ g16 g17 : Nat, v16 = .pointer (some ⟨g16, 0, none⟩) ∧ v17 = .pointer (some ⟨g17, 0, none⟩) ∧ v18 = .bool true ∧ Aside0 (Box we g16 c) ∧ Aside0 (Box we g17 d) ∧ Aside0 (g15 < g16 ∧ g15 < g17) ∧ Aside0 (Below wc.heap.size wc we))
                        case first =>
                          refine reg22 p0 p1 hz0 hz1 cy y60 BY hm HCI (fun _ _ _ _ _ _ _ _ _ _ _ _ _ _ _ _ _ g16 g17 we hB hD hG hL => ?_)
                          go_wp2
                          go_meet
                          case rel => exact ⟨g16, g17, rfl, rfl, rfl, hB, hD, hG, hL⟩
                        case rest =>
                          obtain ⟨g16, g17, rfl, rfl, rfl, B16, B17, HGG, HBe⟩ := hcut
                          obtain ⟨n, hn, n1, n2, _, rfl, rfl⟩ := HSS.out
                          obtain ⟨cl, cr, ccov⟩ := cut_part HY.out n n1 n2
                          have HCL := Aside0.mk (show PartOf b (cutL y n) from cl)
                          have HCR := Aside0.mk (show PartOf b (cutR y n) from cr)
                          have HCC := Aside0.mk ccov
                          have PBe := Aside0.mk (PBb.out.below HBe.out)
                          have RPe := Aside0.mk (RPb.out.below HBe.out)
                          have HKe := Aside0.mk (keep_then HKb.out (KeepBut.of_below HBe.out g12 none))
                          have HBf := Aside0.mk (below_step HBb.out HBe.out)
                          have BYe := Aside0.mk (BY.out.below HBe.out)
                          obtain ⟨v1, ca, h1, h2, _, hA⟩ := addP b HWB.out l HP.out (cutR y n) HCR.out
                          have HA1 := Aside0.mk h1
                          have HA2 := Aside0.mk h2
                          have HAC := Aside0.mk hA
                          clear cl cr ccov hA h1 h2 hn PBb RPb HKb HBb BY HSS HCI
                          have hG16 := HGG.out
                          have hpz := (blk_cell PBe.out 0).trans rfl
                          obtain ⟨hd0, hd1, hd2, hd3, hd4, hd5, hd6, hd7, hd8, hd9, _⟩ := B17.out.all
                          go_upto_region 26 with (go_at_call 26; go_loud (refine (HAC.out A cap _ RPe.out.C HCP.out).mono ?_; rintro e wf ⟨A5, c5, rfl, hc5, hr5, hb5⟩))
                          obtain ⟨o, ho⟩ : ∃ o, o = Obj.cells #[.slice A5 v1.length c5] 29 (0, 0) := ⟨_, rfl⟩
                          have hal := below_step hb5 (below_alloc (Below.refl wf.heap.size wf) o)
                          have P19 := Aside0.mk (show PBox (wf.alloc o) wf.heap.size A5 v1.length c5 from by rw [ho]; exact blk_new _ _)
                          have P12 := Aside0.mk (PBe.out.below hal)
                          have Y15 := Aside0.mk (BYe.out.below hal)
                          have L16 := Aside0.mk (B16.out.below hal)
                          have HKf := Aside0.mk (keep_then HKe.out (KeepBut.of_below hal g12 none))
                          have HBh := Aside0.mk (below_step HBf.out hal)
                          have s1 := HBe.out.size
                          have s2 := hb5.size
                          have RQ := Aside0.mk (Row.lower (hr5.alloc o) (show g15 + 1 ≤ _ from by omega))
                          have HC5 := Aside0.mk hc5
                          rw [← ho]
                          clear hal ho hr5 hb5 hc5 PBe RPe HKe HBf BYe B16 B17 HAC hpz hd0 hd1 hd2 hd3 hd4 hd5 hd6 hd7 hd8 hd9
                          generalize wf.alloc o = wg at *
                          generalize wf.heap.size = g19 at *
                          have ne1 : g16 ≠ g12 := by omega
                          have ne2 : g12 ≠ g16 := by omega
                          have ne3 : g15 ≠ g12 := by omega
                          have ne4 : g12 ≠ g15 := by omega
                          have hp12 := (blk_cell P12.out 0).trans rfl
                          have hp19 := (blk_cell P19.out 0).trans rfl
                          cases ca with
                          | false =>
                            have e60 : ((l.length : Int) == 60) = true := beq_iff_eq.2 (by have := HA2.out rfl; omega)
                            go_wp2
                            go_ret
                            exact ⟨rfl, HBh.out⟩
                          | true =>
                            obtain ⟨PO, HME⟩ := HA1.out rfl
                            have HPO := Aside0.mk PO
                            have HMM := Aside0.mk HME
                            clear PO HME HA1 HA2
                            have hf12 := blk_frozen P12.out 0
                            obtain ⟨hy0, hy1, hy2, hy3, hy4, hy5, hy6, hy7, hy8, hy9, hyf⟩ := Y15.out.all
                            have hyf0 := hyf 0
                            have hyf1 := hyf 1
                            have hyf2 := hyf 2
                            have hyf3 := hyf 3
                            have hyf4 := hyf 4
                            have hyf5 := hyf 5
                            have hyf6 := hyf 6
                            have hyf7 := hyf 7
                            have hyf8 := hyf 8
                            have hyf9 := hyf 9
                            obtain ⟨hl0, hl1, hl2, hl3, hl4, hl5, hl6, hl7, hl8, hl9, _⟩ := L16.out.all
                            clear hyf
                            go_wp2
                            go_meet
                            case rel =>
                              exact ⟨v1, A5, c5, cutL y n, HPO, HCL, ⟨put_box (blk_far (p := ⟨g12, 0, none⟩) Y15.out ne3 _)⟩, ⟨put_blk (blk_put (cs' := #[.slice A5 v1.length c5]) P12.out 0 _ rfl) ne4⟩, HC5, ⟨(put_row (RQ.out.far (by omega) _) (by omega)).lower (by omega)⟩, ⟨put_keep (KeepBut.set_ HKf.out _ _) HGW⟩, ⟨put_below (below_set HBh.out HGL) (by omega)⟩, ⟨fun q hq => (HMM.out q).2 (.inl hq), fun a ha => (((HCC.out a).1 ha).imp id fun h => ⟨cutR y n, (HMM.out _).2 (.inr rfl), h⟩)⟩⟩
                    case rest =>
                      clear HP BY PBb HCP RPb HKb HBb HBB
                      obtain ⟨l2, A4, cap2, y2, HP2, HY2, B15, P12, HCP2, RP2, HK2, HB2, HQ⟩ := hcut
                      obtain ⟨v1, ca, h1, h2, _, hA⟩ := addP b HWB.out l2 HP2.out y2 HY2.out
                      have HA1 := Aside0.mk h1
                      have HA2 := Aside0.mk h2
                      have HAC := Aside0.mk hA
                      clear h1 h2 hA
                      have hp12 := (blk_cell P12.out 0).trans rfl
                      obtain ⟨hy0, hy1, hy2, hy3, hy4, hy5, hy6, hy7, hy8, hy9, _⟩ := B15.out.all
                      have hg15 := blk_lt B15.out
                      go_upto_region 31 with (go_at_call 26; go_loud (refine (HAC.out A4 cap2 _ RP2.out.C HCP2.out).mono ?_; rintro e wf ⟨A5, c5, rfl, hc5, hr5, hb5⟩))
                      obtain ⟨o, ho⟩ : ∃ o, o = Obj.cells #[.slice A5 v1.length c5] 29 (0, 0) := ⟨_, rfl⟩
                      have hal := below_step hb5 (below_alloc (Below.refl wf.heap.size wf) o)
                      have P21 := Aside0.mk (show PBox (wf.alloc o) wf.heap.size A5 v1.length c5 from by rw [ho]; exact blk_new _ _)
                      have Q12 := Aside0.mk (P12.out.below hal)
                      have Y15 := Aside0.mk (B15.out.below hal)
                      have HK3 := Aside0.mk (keep_then HK2.out (KeepBut.of_below hal g12 none))
                      have HB3 := Aside0.mk (below_step HB2.out hal)
                      have s2 := hb5.size
                      have RQ := Aside0.mk (Row.lower (hr5.alloc o) (show g15 + 1 ≤ _ from by omega))
                      have HC5 := Aside0.mk hc5
                      rw [← ho]
                      have HG21 : g12 < wf.heap.size := by omega
                      clear hal ho hr5 hb5 hc5 P12 B15 RP2 HK2 HB2 HAC hp12 hy0 hy1 hy2 hy3 hy4 hy5 hy6 hy7 hy8 hy9
                      generalize wf.alloc o = wg at *
                      generalize wf.heap.size = g21 at *
                      have hq12 := (blk_cell Q12.out 0).trans rfl
                      have hq21 := (blk_cell P21.out 0).trans rfl
                      cases ca with
                      | false =>
                        have e60 : ((l2.length : Int) == 60) = true := beq_iff_eq.2 (by have := HA2.out rfl; omega)
                        go_wp2
                        go_ret
                        exact ⟨rfl, HB3.out⟩
                      | true =>
                        obtain ⟨PO, HME⟩ := HA1.out rfl
                        have HPO := Aside0.mk PO
                        have HMM := Aside0.mk HME
                        obtain ⟨v2, cb2, _, _, h3, hA⟩ := addP b HWB.out v1 PO y2 HY2.out
                        obtain ⟨e1, e2⟩ := h3 ((HME y2).2 (.inr rfl))
                        rw [e1, e2] at hA
                        have HAC := Aside0.mk hA
                        clear PO HME HA1 HA2 h3 hA e1 e2
                        have HL60 := Aside0.mk HPO.out.2.2
                        obtain ⟨hy0, hy1, hy2, hy3, hy4, hy5, hy6, hy7, hy8, hy9, _⟩ := Y15.out.all
                        go_upto_region 34 with (go_at_call 26; go_loud (refine (HAC.out A5 c5 _ RQ.out.C HC5.out).mono ?_; rintro e wh ⟨A6, c6, rfl, hc6, hr6, hb6⟩))
                        obtain ⟨o, ho⟩ : ∃ o, o = Obj.cells #[.slice A6 v1.length c6] 29 (0, 0) := ⟨_, rfl⟩
                        have hal := below_step hb6 (below_alloc (Below.refl wh.heap.size wh) o)
                        have P23 := Aside0.mk (show PBox (wh.alloc o) wh.heap.size A6 v1.length c6 from by rw [ho]; exact blk_new _ _)
                        have S12 := Aside0.mk (Q12.out.below hal)
                        have S21 := Aside0.mk (P21.out.below hal)
                        have HK4 := Aside0.mk (keep_then HK3.out (KeepBut.of_below hal g12 none))
                        have HB4 := Aside0.mk (below_step HB3.out hal)
                        have RQ2 := Aside0.mk (RQ.out.below hal)
                        have RZ := Aside0.mk (hr6.alloc o)
                        have HC6 := Aside0.mk hc6
                        rw [← ho]
                        clear hal ho hr6 hb6 hc6 Q12 P21 Y15 HK3 HB3 RQ HAC hq12 hq21 hy0 hy1 hy2 hy3 hy4 hy5 hy6 hy7 hy8 hy9
                        generalize wh.alloc o = wi at *
                        generalize wh.heap.size = g23 at *
                        have hq21 := (blk_cell S21.out 0).trans rfl
                        have hq23 := (blk_cell P23.out 0).trans rfl
                        go_wp2_with (go_at_call 36; go_loud (refine (sameP v1 HL60.out A6 A5 c6 c5 wi RZ.out.C HC6.out RQ2.out.C HC5.out).mono ?_; rintro e wj ⟨rfl, hb7⟩; have T12 := Aside0.mk (S12.out.below hb7); have T21 := Aside0.mk (S21.out.below hb7); have HK5 := Aside0.mk (keep_then HK4.out (KeepBut.of_below hb7 g12 none)); have HB5 := Aside0.mk (below_step HB4.out hb7); have RQ3 := Aside0.mk (RQ2.out.below hb7); clear S12 S21 HK4 HB4 RQ2 RZ hb7 P23 hq21 hq23; have hq12 := (blk_cell T12.out 0).trans rfl; have hf12 := blk_frozen T12.out 0; have hq21 := (blk_cell T21.out 0).trans rfl))
                        go_roundg k1
                        case measure => omega
                        case rel =>
                          refine ⟨x + 1, v1, A5, c5, rfl, ⟨by omega, by omega, by omega⟩, HPO, ⟨fun j j0 j1 a ha => ?_⟩, ⟨blk_put (cs' := #[.slice A5 v1.length c5]) T12.out 0 _ rfl⟩, HC5, ⟨(RQ3.out.far (by omega) _).lower (by omega)⟩, ⟨KeepBut.set_ HK5.out _ _⟩, ⟨below_set HB5.out HGL⟩⟩
                          by_cases e : j = x
                          · rw [e, HKX.out, ← HYE.out] at ha
                            rcases HQ.out.2 a ha with h | ⟨q, hq, h⟩
                            · exact ⟨y2, (HMM.out _).2 (.inr rfl), h⟩
                            · exact ⟨q, (HMM.out _).2 (.inl hq), h⟩
                          · obtain ⟨q, hq, h⟩ := HCV.out j j0 (by omega) a ha
                            exact ⟨q, (HMM.out _).2 (.inl (HQ.out.1 q hq)), h⟩
                · have cb : decide (x < (v.length : Int)) = false := decide_eq_false ci
                  have hcov : ∀ a : Int, 0 ≤ a → a < b.f9.size → ∃ q ∈ l, InP q a := by
                    intro a h0 h1
                    obtain ⟨q, hq, h⟩ := HCB.out a h0 h1
                    obtain ⟨r, hr, e⟩ := mem_pc hq
                    have n0 : (v.length : Int) ≠ 0 := by omega
                    refine HCV.out (((r : Int) - s) % (v.length : Int)) (Int.emod_nonneg _ n0) (by have := Int.emod_lt_of_pos ((r : Int) - s) (show 0 < (v.length : Int) by omega); omega) a ?_
                    have e2 : ((((r : Int) - s) % (v.length : Int)) + s) % (v.length : Int) = (r : Int) := by
                      rw [Int.emod_add_emod, Int.sub_add_cancel]
                      exact Int.emod_eq_of_lt (by omega) (by omega)
                    rw [e2]
                    have e3 : rd_T46 v (r : Int) = q := e
                    rw [e3]
                    exact h
                  have HCA := Aside0.mk hcov
                  clear hcov
                  have hp12 := (blk_cell PB.out 0).trans rfl
                  go_upto_region 39 with (go_at_call 29; go_loud (refine (wholeI b HWB.out l HP.out HCA.out A cap _ RP.out.C HCP.out).mono ?_; rintro e wf ⟨rfl, hb5⟩))
                  obtain ⟨o, ho⟩ : ∃ o, o = Obj.cells #[.int .i64 b.f0, .int .i64 b.f1, .bool b.f2, .int .i64 b.f3, .int .i64 b.f4, .int .i64 b.f5, .int .i64 b.f6, .int .i64 b.f7, .int .i64 b.f8, .string b.f9] 46 (0, 0) := ⟨_, rfl⟩
                  have hal := below_step hb5 (below_alloc (Below.refl wf.heap.size wf) o)
                  have B25 := Aside0.mk (show Box (wf.alloc o) wf.heap.size b from by rw [ho]; exact blk_new _ _)
                  have Q12 := Aside0.mk (PB.out.below hal)
                  have B5 := Aside0.mk ((BV.out _ HK.out).below hal)
                  have HB3 := Aside0.mk (below_step HBq.out hal)
                  have RQ := Aside0.mk (RP.out.below hal)
                  rw [← ho]
                  clear hal ho hb5 PB HK HBq RP hp12
                  generalize wf.alloc o = wg at *
                  generalize wf.heap.size = g25 at *
                  have hp12 := (blk_cell Q12.out 0).trans rfl
                  go_upto_region 40 with (go_at_call 22; go_loud (refine (missI b HWB.out l HP.out HCA.out A cap _ RQ.out.C HCP.out).mono ?_; rintro e wh ⟨rfl, hb6⟩; have C25 := Aside0.mk (B25.out.below hb6); have C5 := Aside0.mk (B5.out.below hb6); have HB4 := Aside0.mk (below_step HB3.out hb6); clear hp12 hb6 B25 Q12 B5 HB3 RQ))
                  obtain ⟨hy0, hy1, hy2, hy3, hy4, hy5, hy6, hy7, hy8, hy9, _⟩ := C25.out.all
                  obtain ⟨hz0, hz1, hz2, hz3, hz4, hz5, hz6, hz7, hz8, hz9, _⟩ := C5.out.all
                  go_wp2
                  repeat (go_quiet (fail); try go_wp2)
                  go_meet
                  case rel => exact ⟨by (with_reducible repeat (first | exact HB4.out | apply pw_below_drewN | apply below_drew1))⟩
          --]]2
        case rest =>
          clear BX4 HB4 R4 HNO HYES OB HB0 HR0 HC0
          go_upto_region 43 with (go_at_call 37; go_loud (refine (drawCutPiece_run wc A1 c1 l1 (Kd.C_below HR1.out (hcut.out.mono (by have := hcut.out.size; exact Nat.le_refl _))) HB1.out).mono ?_; rintro e wd ⟨⟨q, at_, rfl, oq, n0, n1⟩, hb⟩; have OQ := Aside0.mk oq; have HBd := Aside0.mk (below_step hcut.out hb); clear oq hb))
          obtain ⟨o, ho⟩ : ∃ o, o = Obj.cells #[.int .i64 q.f0, .int .i64 q.f1, .bool q.f2, .int .i64 q.f3, .int .i64 q.f4, .int .i64 q.f5, .int .i64 q.f6, .int .i64 q.f7, .int .i64 q.f8, .string q.f9] 46 (0, 0) := ⟨_, rfl⟩
          have B29 := Aside0.mk (show Box (wd.alloc o) wd.heap.size q from by rw [ho]; exact blk_new _ _)
          have HBe := Aside0.mk (below_alloc HBd.out o)
          rw [← ho]
          clear ho HBd
          generalize wd.alloc o = we at *
          generalize wd.heap.size = g29 at *
          obtain ⟨c, d, ss, hss, _, hI, hS⟩ := cutP q OQ.out at_
          have HSS := Aside0.mk hss
          have HCI := Aside0.mk hI
          have HCS := Aside0.mk hS
          clear hss hI hS
          obtain ⟨hy0, hy1, hy2, hy3, hy4, hy5, hy6, hy7, hy8, hy9, _⟩ := B29.out.all
          go_upto_region 44 with (go_at_call 35; go_loud (refine (HCI.out _).mono ?_; rintro e wf ⟨rfl, hb⟩; have D29 := Aside0.mk (B29.out.below hb); have HBf := Aside0.mk (below_step HBe.out hb); clear B29 HBe HCI hb hy0 hy1 hy2 hy3 hy4 hy5 hy6 hy7 hy8 hy9))
          obtain ⟨oc, hoc⟩ : ∃ o, o = Obj.cells #[.int .i64 c.f0, .int .i64 c.f1, .bool c.f2, .int .i64 c.f3, .int .i64 c.f4, .int .i64 c.f5, .int .i64 c.f6, .int .i64 c.f7, .int .i64 c.f8, .string c.f9] 46 (0, 0) := ⟨_, rfl⟩
          obtain ⟨od, hod⟩ : ∃ o, o = Obj.cells #[.int .i64 d.f0, .int .i64 d.f1, .bool d.f2, .int .i64 d.f3, .int .i64 d.f4, .int .i64 d.f5, .int .i64 d.f6, .int .i64 d.f7, .int .i64 d.f8, .string d.f9] 46 (0, 0) := ⟨_, rfl⟩
          have hal := below_alloc (below_alloc (Below.refl wf.heap.size wf) oc) od
          have B31 := Aside0.mk (show Box ((wf.alloc oc).alloc od) wf.heap.size c from by rw [hoc]; exact blk_alloc (blk_new _ _) _)
          have B32 := Aside0.mk (show Box ((wf.alloc oc).alloc od) (wf.heap.size + 1) d from by rw [hod]; exact blk_new2 _ _ _)
          have E29 := Aside0.mk (D29.out.below hal)
          have HBg := Aside0.mk (below_step HBf.out hal)
          rw [← hoc, ← hod]
          clear hoc hod hal D29 HBf
          generalize (wf.alloc oc).alloc od = wg at *
          generalize wf.heap.size = g31 at *
          obtain ⟨hy0, hy1, hy2, hy3, hy4, hy5, hy6, hy7, hy8, hy9, _⟩ := E29.out.all
          go_upto_region 45 with (go_at_call 38; go_loud (refine (HCS.out _).mono ?_; rintro e wh ⟨rfl, hb⟩; have F29 := Aside0.mk (E29.out.below hb); have C31 := Aside0.mk (B31.out.below hb); have C32 := Aside0.mk (B32.out.below hb); have HBh := Aside0.mk (below_step HBg.out hb); clear E29 B31 B32 HBg HCS hb hy0 hy1 hy2 hy3 hy4 hy5 hy6 hy7 hy8 hy9))
          obtain ⟨oc, hoc⟩ : ∃ o, o = Obj.cells #[.int .i64 c.f0, .int .i64 c.f1, .bool c.f2, .int .i64 c.f3, .int .i64 c.f4, .int .i64 c.f5, .int .i64 c.f6, .int .i64 c.f7, .int .i64 c.f8, .string c.f9] 46 (0, 0) := ⟨_, rfl⟩
          obtain ⟨od, hod⟩ : ∃ o, o = Obj.cells #[.int .i64 d.f0, .int .i64 d.f1, .bool d.f2, .int .i64 d.f3, .int .i64 d.f4, .int .i64 d.f5, .int .i64 d.f6, .int .i64 d.f7, .int .i64 d.f8, .string d.f9] 46 (0, 0) := ⟨_, rfl⟩
          have hal := below_alloc (below_alloc (Below.refl wh.heap.size wh) oc) od
          have B34 := Aside0.mk (show Box ((wh.alloc oc).alloc od) wh.heap.size c from by rw [hoc]; exact blk_alloc (blk_new _ _) _)
          have B35 := Aside0.mk (show Box ((wh.alloc oc).alloc od) (wh.heap.size + 1) d from by rw [hod]; exact blk_new2 _ _ _)
          have E29 := Aside0.mk (F29.out.below hal)
          have E31 := Aside0.mk (C31.out.below hal)
          have E32 := Aside0.mk (C32.out.below hal)
          have HBi := Aside0.mk (below_step HBh.out hal)
          rw [← hoc, ← hod]
          clear hoc hod hal F29 C31 C32 HBh
          generalize (wh.alloc oc).alloc od = wi at *
          generalize wh.heap.size = g34 at *
          obtain ⟨hy0, hy1, hy2, hy3, hy4, hy5, hy6, hy7, hy8, hy9, _⟩ := E31.out.all
          obtain ⟨hz0, hz1, hz2, hz3, hz4, hz5, hz6, hz7, hz8, hz9, _⟩ := E32.out.all
          obtain ⟨hx0, hx1, hx2, hx3, hx4, hx5, hx6, hx7, hx8, hx9, _⟩ := B34.out.all
          obtain ⟨hq0, hq1, hq2, hq3, hq4, hq5, hq6, hq7, hq8, hq9, _⟩ := B35.out.all
          cases ss with
          | false =>
            go_wp2
            repeat (go_quiet (fail); try go_wp2)
            go_ret
            exact ⟨rfl, HBi.out⟩
          | true =>
            obtain ⟨n, hn, n1, n2, hpq, rfl, rfl⟩ := HSS.out (by first | rfl | trivial)
            have hj : (cutL q n).f9 ++ (cutR q n).f9 = q.f9 := cut_join q n (by omega)
            have G1 := Aside0.mk (cutL_good hpq n1 n2)
            have G2 := Aside0.mk (cutR_good hpq n1 n2)
            have hsum : (cutL q n).f9.size + (cutR q n).f9.size ≤ 9223372036854775807 := by
              have t1 := G1.out.told
              have t2 := G2.out.told
              omega
            clear HSS hn hpq
            have hx29 := E29.out.all.2.2.2.2.2.2.2.2.2.1
            go_wp2_with (first
              | (go_at_call 39; go_loud (refine (goodI _ G1.out _).mono ?_; rintro e wj ⟨rfl, hb⟩; have F32 := Aside0.mk (E32.out.below hb); have HBj := Aside0.mk (below_step HBi.out hb); clear G1; obtain ⟨hw0, hw1, hw2, hw3, hw4, hw5, hw6, hw7, hw8, hw9, _⟩ := F32.out.all))
              | (go_at_call 39; go_loud (refine (goodI _ G2.out _).mono ?_; rintro e wk ⟨rfl, hb⟩; have HBk := Aside0.mk (below_step HBj.out hb))))
            go_ret
            exact ⟨rfl, HBk.out⟩
end Go.Proofs.Ytlkbbolkadkedaa.QFnPieces
