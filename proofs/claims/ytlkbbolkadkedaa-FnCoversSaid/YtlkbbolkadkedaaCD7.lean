import Derived.Test.YtlkbbolkadkedaaCD6
namespace Go.Proofs.Ytlkbbolkadkedaa.QFnCovers
open Go.RowKit Go.Proofs.Ytlkbbolkadkedaa.Pure Go.Proofs.Ytlkbbolkadkedaa.Plain Go.Proofs.YtlkbbolkadkedaaW.PrintWords Go.Proofs.YtlkbbolkadkedaaW.PrintLast Go.Proofs.YtlkbbolkadkedaaW.PrintMore
attribute [local go_sem] max2_int min2_int max_two min_two max_three min_three max_four min_four
set_option linter.unusedVariables false
set_option linter.unusedSimpArgs false
set_option maxHeartbeats 80000000 in
set_option maxRecDepth 100000 in
theorem pile_run (w0 w : World) (g : Nat) (c : List Int) (p : Int) (h : Cur w0 w g c p) (hp : p ≤ 1000000000) : Calls Try.prog 68 #[.pointer (some ⟨g, 0, none⟩)] w fun e w' => (∃ A cap l A2 cap2 all, e = .returned (.tuple #[.agg #[.slice A l.length cap], .slice A2 all.length cap2]) ∧ l.length ≤ cap ∧ Row w.heap.size w' (.slice A l.length cap) l ∧ l.length ≤ 60 ∧ (∀ y ∈ l, Ok8 y) ∧ all.length ≤ cap2 ∧ Row w.heap.size w' (.slice A2 all.length cap2) all ∧ all.length ≤ 120 ∧ ∀ y ∈ all, Ok8 y) ∧ Cur w0 w' g c (p + 1000) ∧ KeepBut w w' g none := by
  have hu46 := Try.underlying46
  have hu29 := Try.underlying29
  have HC := Aside0.mk h
  have HL0 : g < w.heap.size := h.lt
  have HNr : w.heap.size ≠ g := Nat.ne_of_gt HL0
  have HW00 : w0.heap.size ≤ w.heap.size := h.bel.size
  have HK := Aside0.mk (KeepBut.refl w g none)
  clear h
  go_enter Try.func68, Try.ntmps68
  go_upto_region 2 with (first
    | ((with_reducible refine gate_dst (N := 2) rfl ?_); refine box_event ?hg (N := 2) ?hd (cs := #[.slice none 0 0]) (t := 29) ?hr ?_; (case hd => rfl); (case hg => rfl); (case hr => first | (go_simp; done) | (go_simp; rfl)); intro gb hg w1 hbox hbl; subst hg; have BK := Aside0.mk (show PBox w1 w.heap.size none 0 0 from hbox); have HK2 := Aside0.mk (keep_then HK.out (KeepBut.of_below hbl g none)); have HC2 := Aside0.mk (HC.out.below hbl); clear HC HK hbox hbl)
    | (go_at_call 59; go_loud ((refine (whole_run w0 _ g c _ HC2.out (by omega)).mono ?_); rintro e w2 ⟨⟨x, rfl, hx⟩, hc1, hk1⟩; have B2 := Aside0.mk (BK.out.keep hk1 HNr); have K3 := Aside0.mk (keep_then HK2.out hk1); have C3 := Aside0.mk hc1; have OX := Aside0.mk hx; clear hx HC2 HK2 BK hc1 hk1)))
  obtain ⟨o, ho⟩ : ∃ o, o = Obj.cells #[.int .i64 x.f0, .int .i64 x.f1, .bool x.f2, .int .i64 x.f3, .int .i64 x.f4, .int .i64 x.f5, .int .i64 x.f6, .int .i64 x.f7, .int .i64 x.f8, .string x.f9] 46 (0, 0) := ⟨_, rfl⟩
  have hal := below_alloc (Below.refl w2.heap.size w2) o
  have B4 := Aside0.mk (show Box (w2.alloc o) w2.heap.size x from by rw [ho]; exact blk_new _ _)
  have R4 := Aside0.mk (B2.out.below hal)
  have K4 := Aside0.mk (keep_then K3.out (KeepBut.of_below hal g none))
  have C4 := Aside0.mk (C3.out.below hal)
  have HRb : w.heap.size < w2.heap.size := blk_lt B2.out
  have HGb : g < w2.heap.size := C3.out.lt
  rw [← ho]
  clear ho hal B2 K3 C3
  generalize w2.alloc o = w3 at *
  generalize w2.heap.size = gb at *
  have HNb : gb ≠ g := Nat.ne_of_gt HGb
  go_cut [5] (fun v5 wc => ∃ (A : Option Addr) (cap : Nat) (l : List S46), v5 = .slice A l.length cap ∧ Aside0 (l.length ≤ cap) ∧ Aside0 (Row (gb + 1) wc (.slice A l.length cap) l) ∧ Aside0 (l.length ≤ 60) ∧ Aside0 (∀ y ∈ l, Ok8 y) ∧ Aside0 (Box wc gb x) ∧ Aside0 (PBox wc w.heap.size none 0 0) ∧ Aside0 (Cur w0 wc g c (p + 90)) ∧ Aside0 (KeepBut w wc g none))
  case first =>
    --[[1
    obtain ⟨hz0, hz1, hz2, hz3, hz4, hz5, hz6, hz7, hz8, hz9, _⟩ := B4.out.all
    have hbl := blk_lt B4.out
    go_region_with (first
      | (go_at_call 67; go_loud ((refine (pick_run w0 _ g c _ _ (C4.out.below (below_drew (Below.refl _ _))) (by omega) (by decide)).mono ?_); rintro e w5 ⟨⟨v, rfl, v0, v1⟩, hc1, hk1⟩; have B5 := Aside0.mk (Box.keep (show Box (World.drew w3) gb x from blk_drew B4.out) hk1 HNb); have R5 := Aside0.mk (PBox.keep (show PBox (World.drew w3) w.heap.size none 0 0 from blk_drew R4.out) hk1 HNr); have K5 := Aside0.mk (keep_then (keep_drew K4.out) hk1); have C5 := Aside0.mk hc1; obtain ⟨hy0, hy1, hy2, hy3, hy4, hy5, hy6, hy7, hy8, hy9, _⟩ := B5.out.all; clear hc1 hk1))
      | (go_at_call 33; go_loud ((refine (cutS_any x _ OX.out _).mono ?_); rintro e w6 ⟨A, cap, l, ok, rfl, hcap, hr, hl, ho, hne, hb⟩; have hs5 := blk_lt B5.out)))
    all_goals
      go_wp2
      go_meet
      case rel => exact ⟨A, cap, l, rfl, ⟨hcap⟩, ⟨Row.lower hr hs5⟩, ⟨hl⟩, ⟨ho⟩, ⟨B5.out.below hb⟩, ⟨R5.out.below hb⟩, ⟨(C5.out.below hb).mono (by omega)⟩, ⟨keep_then K5.out (KeepBut.of_below hb g none)⟩⟩
    --]]1
  case rest =>
    clear B4 R4 K4 C4
    obtain ⟨A, cap, l, rfl, HCL, RL, HLL, HLO, B4, R4, C4, K4⟩ := hcut
    go_upto_region 3 with (fail)
    go_cut [7] (fun v7 wd => ∃ (A2 : Option Addr) (cap2 : Nat) (m : List S46) (bm : Nat), v7 = .slice A2 m.length cap2 ∧ Aside0 (m.length ≤ cap2) ∧ Aside0 (Row bm wd (.slice A2 m.length cap2) m) ∧ Aside0 (gb + 1 ≤ bm) ∧ Aside0 (Kd.R k46 46 wd (gb + 1) (fun k => k < bm) (.slice A l.length cap) l) ∧ Aside0 (m.length ≤ 60) ∧ Aside0 (∀ y ∈ m, Ok8 y) ∧ Aside0 (Box wd gb x) ∧ Aside0 (PBox wd w.heap.size none 0 0) ∧ Aside0 (Cur w0 wd g c (p + 94)) ∧ Aside0 (KeepBut w wd g none))
    case first =>
      --[[2
      obtain ⟨hz0, hz1, hz2, hz3, hz4, hz5, hz6, hz7, hz8, hz9, _⟩ := B4.out.all
      have hbl := blk_lt B4.out
      go_region_with (first
        | (go_at_call 67; go_loud ((refine (pick_run w0 _ g c _ _ (C4.out.below (below_drew (Below.refl _ _))) (by omega) (by decide)).mono ?_); rintro e w5 ⟨⟨v, rfl, v0, v1⟩, hc1, hk1⟩; have B5 := Aside0.mk (Box.keep (show Box (World.drew wc) gb x from blk_drew B4.out) hk1 HNb); have R5 := Aside0.mk (PBox.keep (show PBox (World.drew wc) w.heap.size none 0 0 from blk_drew R4.out) hk1 HNr); have K5 := Aside0.mk (keep_then (keep_drew K4.out) hk1); have C5 := Aside0.mk hc1; have RL5 := Aside0.mk (Row.keep (RL.out.below (below_drew (Below.refl _ _))) hk1 (by omega)); obtain ⟨hy0, hy1, hy2, hy3, hy4, hy5, hy6, hy7, hy8, hy9, _⟩ := B5.out.all; clear hc1 hk1))
        | (go_at_call 33; go_loud ((refine (cutS_any x _ OX.out _).mono ?_); rintro e w6 ⟨A2, cap2, m, ok, rfl, hcap, hr, hl, ho, hne, hb⟩; have hs5 := blk_lt B5.out)))
      all_goals
        go_wp2
        go_meet
        case rel => exact ⟨A2, cap2, m, w5.heap.size, rfl, ⟨hcap⟩, ⟨hr⟩, ⟨hs5⟩, ⟨Kd.R_mono (Kd.R_below (Kd.R_bound RL5.out) hb) (fun k hk => hk.2.2.1)⟩, ⟨hl⟩, ⟨ho⟩, ⟨B5.out.below hb⟩, ⟨R5.out.below hb⟩, ⟨(C5.out.below hb).mono (by omega)⟩, ⟨keep_then K5.out (KeepBut.of_below hb g none)⟩⟩
      --]]2
    case rest =>
      clear B4 R4 K4 C4 RL OX
      obtain ⟨A2, cap2, m, bm, rfl, HCM, RM, HBM, RL, HLM, HMO, B4, R4, C4, K4⟩ := hcut
      have hl60 := HLL.out
      have hm60 := HLM.out
      have hgm : ∀ k, (Value.slice A2 m.length cap2).ownBlock = some k → bm ≤ k ∧ k < wc.heap.size := fun k hk => ⟨((Kd.R_bound RM.out).1 k hk).2.1, ((Kd.R_bound RM.out).1 k hk).2.2.1⟩
      have HGM := Aside0.mk hgm
      clear hgm
      have hblw := blk_lt B4.out
      go_wp2_with ((with_reducible refine gate_builtin (b := .append) (xs := #[.tmp 34, .tmp 35]) rfl ?_); at_builtin; refine Kd.R_append_rows k46 (w0 := wc) (gb + 1) rfl (.tmp 34) (.tmp 35) 27 46 (.agg #[(.int .i64 0), (.int .i64 0), (.bool false), (.int .i64 0), (.int .i64 0), (.int .i64 0), (.int .i64 0), (.int .i64 0), (.int .i64 0), (.string ⟨#[]⟩)]) 88 rfl Try.underlying27 info46 rfl (by decide) (by omega) (.slice A l.length cap) l m _ _ _ (fun k_ => some k_ ≠ (.slice A2 m.length cap2 : Value).ownBlock) (fun _ => False) rfl rfl ?aO ?aR (fun _ _ h => h) (fun _ h => h.elim) ?aF (Below.refl _ _) ?aS ?aL ?_; (case aR => exact (Kd.R_reads' RM.out).2.2); (case aO => exact Kd.R_mono RL.out (fun k hk e => by have := (HGM.out k e.symm).1; omega)); (case aF => exact fun k hk e => by have := (HGM.out k e.symm).2; omega); (case aS => omega); (case aL => omega); intro v1 w5 ho hb hg ha; clear ha; obtain ⟨all, hll⟩ : ∃ z, z = l ++ m := ⟨_, rfl⟩; rw [← hll] at ho; have HLL2 := Aside0.mk hll; clear hll; obtain ⟨A5, c5, rfl, hc5, _⟩ := Kd.R_reads ho; have RA := Aside0.mk (show RowU (gb + 1) w5.heap.size w5 (.slice A5 all.length c5) all from Kd.R_mono (Kd.R_bound ho) (fun k hk => hk.2.2.1)); have R5 := Aside0.mk (show PBox w5 w.heap.size none 0 0 from blk_belowB R4.out hb (by omega)); have C5 := Aside0.mk (C4.out.belowB hb (by omega) (by omega)); have K5 := Aside0.mk (keep_grown K4.out hg (fun k hk => by have := ((Kd.R_bound RL.out).1 k hk).2.1; omega) hb.size); have HCA := Aside0.mk hc5; have hs5 := hb.size; clear ho hb hg hc5 RL RM R4 C4 K4 HGM)
      have hall : all.length ≤ 120 := by rw [HLL2.out, List.length_append]; omega
      have hall0 : ∀ y ∈ all, Ok8 y := fun y hy => by rw [HLL2.out] at hy; exact (List.mem_append.1 hy).elim (HLO.out y) (HMO.out y)
      have HAO := Aside0.mk hall0
      clear hall0 HLL2 HLO HMO HLL HLM HCL HCM HBM B4 hl60 hm60
      have hal := below_alloc (Below.refl w5.heap.size w5) (Obj.cells #[Value.slice none 0 0] 29 (0, 0))
      have P0 := Aside0.mk (show PBox (w5.alloc (Obj.cells #[Value.slice none 0 0] 29 (0, 0))) w5.heap.size none 0 0 from blk_new _ _)
      have RA6 := Aside0.mk (RA.out.below hal)
      have R6 := Aside0.mk (R5.out.below hal)
      have C6 := Aside0.mk (C5.out.below hal)
      have K6 := Aside0.mk (keep_then K5.out (KeepBut.of_below hal g none))
      have hg10 : g < w5.heap.size := C5.out.lt
      have hr10 : w.heap.size < w5.heap.size := blk_lt R5.out
      have hw10 : w.heap.size ≤ w5.heap.size := by omega
      have hb10 : gb < w5.heap.size := by omega
      clear hal RA R5 C5 K5
      generalize w5.alloc (Obj.cells #[Value.slice none 0 0] 29 (0, 0)) = w6 at *
      generalize w5.heap.size = g10 at *
      go_loopg [40] (all.length + 1) (fun kq v40 wq => ∃ (z : Int) (pl : List S46) (A : Option Addr) (cap : Nat), v40 = .int .i64 z ∧ Aside0 (0 ≤ z ∧ z ≤ (all.length : Int) ∧ (kq : Int) + z = (all.length : Int) + 1) ∧ Aside0 (pl.length ≤ 60) ∧ Aside0 (∀ y ∈ pl, Ok8 y) ∧ Aside0 (pl.length ≤ cap) ∧ Aside0 (PBox wq g10 A pl.length cap) ∧ Aside0 (Row (g10 + 1) wq (.slice A pl.length cap) pl) ∧ Aside0 (RowU (gb + 1) g10 wq (.slice A5 all.length c5) all) ∧ Aside0 (PBox wq w.heap.size none 0 0) ∧ Aside0 (Cur w0 wq g c (p + 100 + 2 * z)) ∧ Aside0 (KeepBut w wq g none))
      case atStart => exact ⟨0, [], none, 0, rfl, ⟨by omega, by omega, by omega⟩, ⟨by simp⟩, ⟨fun y hy => absurd hy (by simp)⟩, ⟨Nat.le_refl _⟩, P0, ⟨Row.nil _ _⟩, RA6, R6, ⟨C6.out.mono (by omega)⟩, K6⟩
      case round =>
        clear P0 RA6 R6 C6 K6
        obtain ⟨z, pl, A, cap, rfl, HI, HPL, HPO, HPC, P10, RP, RA, R6, C6, K6⟩ := hrel
        have hi := HI.out
        cases gk with
        | zero => omega
        | succ k1 =>
          by_cases ci : z < (all.length : Int)
          · have cb : decide (z < (all.length : Int)) = true := decide_eq_true ci
            --[[3
            obtain ⟨y, hy⟩ : ∃ y, y = rd_T46 all z := ⟨_, rfl⟩
            obtain ⟨ad, e2, hx0, hx1, hx2, hx3, hx4, hx5, hx6, hx7, hx8, hx9⟩ := at_T46 RA.out.C z hi.1 ci
            have OY := Aside0.mk (HAO.out _ (rd_mem all z hi.1 ci))
            rw [← hy] at OY hx0 hx1 hx2 hx3 hx4 hx5 hx6 hx7 hx8 hx9
            subst e2
            clear hy
            have q0 : (0 ≤ z) = True := eq_true hi.1
            have q1 : (z < (all.length : Int)) = True := eq_true ci
            go_upto_region 9 with (fail)
            obtain ⟨o, ho⟩ : ∃ o, o = Obj.cells #[.int .i64 y.f0, .int .i64 y.f1, .bool y.f2, .int .i64 y.f3, .int .i64 y.f4, .int .i64 y.f5, .int .i64 y.f6, .int .i64 y.f7, .int .i64 y.f8, .string y.f9] 46 (0, 0) := ⟨_, rfl⟩
            have hal := below_alloc (Below.refl wr.heap.size wr) o
            have BY := Aside0.mk (show Box (wr.alloc o) wr.heap.size y from by rw [ho]; exact blk_new _ _)
            have Q10 := Aside0.mk (P10.out.below hal)
            have RP2 := Aside0.mk (RP.out.below hal)
            have RA2 := Aside0.mk (RA.out.below hal)
            have R7 := Aside0.mk (R6.out.below hal)
            have C7 := Aside0.mk (C6.out.below hal)
            have K7 := Aside0.mk (keep_then K6.out (KeepBut.of_below hal g none))
            have hgx : g < wr.heap.size := C6.out.lt
            rw [← ho]
            clear ho hal P10 RP RA R6 C6 K6 hx0 hx1 hx2 hx3 hx4 hx5 hx6 hx7 hx8 hx9
            generalize wr.alloc o = ws at *
            generalize wr.heap.size = gx at *
            go_upto_if 45 with (go_at_call 60; (refine (one_run w0 _ g c _ _ C7.out (by omega) (by decide)).mono ?_); rintro e wt ⟨⟨b, rfl⟩, hc1, hk1⟩; have BZ := Aside0.mk (BY.out.keep hk1 (Nat.ne_of_gt hgx)); have S10 := Aside0.mk (Q10.out.keep hk1 (Nat.ne_of_gt hg10)); have RP3 := Aside0.mk (RP2.out.keep hk1 (by omega)); have RA3 := Aside0.mk (RA2.out.keep hk1 (by omega)); have R8 := Aside0.mk (R7.out.keep hk1 HNr); have C8 := Aside0.mk hc1; have K8 := Aside0.mk (keep_then K7.out hk1); clear BY Q10 RP2 RA2 R7 C7 K7 hc1 hk1)
            cases b with
            | true =>
              go_wp2
              go_roundg k1
              case measure => omega
              case rel => exact ⟨z + 1, pl, A, cap, rfl, ⟨by omega, by omega, by omega⟩, HPL, HPO, HPC, S10, RP3, RA3, R8, ⟨C8.out.mono (by omega)⟩, K8⟩
            | false =>
              obtain ⟨hy0, hy1, hy2, hy3, hy4, hy5, hy6, hy7, hy8, hy9, _⟩ := BZ.out.all
              have hp10 := (blk_cell S10.out 0).trans rfl
              obtain ⟨v, cc, hv, had, _, hS⟩ := addB pl y HPL.out HPO.out OY.out
              have HAD := Aside0.mk had
              have HVL := Aside0.mk hv
              have HS := Aside0.mk hS
              clear had hS hv
              go_upto_region 11 with (go_at_call 24; go_loud (refine (HS.out A cap _ RP3.out.C HPC.out).mono ?_; rintro e wu ⟨A6, c6, rfl, hc6, hr6, hb6⟩))
              obtain ⟨o, ho⟩ : ∃ o, o = Obj.cells #[.slice A6 v.length c6] 29 (0, 0) := ⟨_, rfl⟩
              have hal := below_step hb6 (below_alloc (Below.refl wu.heap.size wu) o)
              have P13 := Aside0.mk (show PBox (wu.alloc o) wu.heap.size A6 v.length c6 from by rw [ho]; exact blk_new _ _)
              have hgt := blk_lt S10.out
              have hgs := hb6.size
              have T10 := Aside0.mk (S10.out.below hal)
              have RP4 := Aside0.mk (RP3.out.below hal)
              have RV4 := Aside0.mk (Row.lower (hr6.alloc o) (show g10 + 1 ≤ _ from by omega))
              have RA4 := Aside0.mk (RA3.out.below hal)
              have R9 := Aside0.mk (R8.out.below hal)
              have C9 := Aside0.mk (C8.out.below hal)
              have K9 := Aside0.mk (keep_then K8.out (KeepBut.of_below hal g none))
              have HC6 := Aside0.mk hc6
              rw [← ho]
              clear ho hal hr6 hb6 hc6 S10 RP3 RA3 R8 C8 K8 BZ HS hp10 hy0 hy1 hy2 hy3 hy4 hy5 hy6 hy7 hy8 hy9
              generalize wu.alloc o = wv at *
              generalize wu.heap.size = g13 at *
              cases cc with
              | false =>
                go_wp2
                go_roundg k1
                case measure => omega
                case rel => exact ⟨z + 1, pl, A, cap, rfl, ⟨by omega, by omega, by omega⟩, HPL, HPO, HPC, T10, RP4, RA4, R9, ⟨C9.out.mono (by omega)⟩, K9⟩
              | true =>
                have hp10 := (blk_cell T10.out 0).trans rfl
                have hf10 := blk_frozen T10.out 0
                have hp13 := (blk_cell P13.out 0).trans rfl
                go_wp2
                go_roundg k1
                case measure => omega
                case rel => exact ⟨z + 1, v, A6, c6, rfl, ⟨by omega, by omega, by omega⟩, HVL, ⟨added_ok8 HAD.out⟩, HC6, ⟨blk_put (cs' := #[.slice A6 v.length c6]) T10.out 0 _ rfl⟩, ⟨RV4.out.typed T10.out (by decide) _⟩, ⟨RA4.out.far (Nat.le_refl _) _⟩, ⟨blk_far (p := ⟨g10, 0, none⟩) R9.out (Nat.ne_of_lt hr10) _⟩, ⟨(C9.out.set (Nat.ne_of_gt hg10) (by omega) 0 _).mono (by omega)⟩, ⟨keep_far (p := ⟨g10, 0, none⟩) K9.out hw10 _⟩⟩
            --]]3
          · have cb : decide (z < (all.length : Int)) = false := decide_eq_false ci
            go_upto_region 14 with (fail)
            have hp10 := (blk_cell P10.out 0).trans rfl
            have hpl60 := HPL.out
            have hz120 : z ≤ 120 := by omega
            go_cut [62] (fun v62 wc => ∃ b : Bool, v62 = .bool b ∧ Aside0 (b = true → 0 < pl.length) ∧ Aside0 (PBox wc g10 A pl.length cap) ∧ Aside0 (Row (g10 + 1) wc (.slice A pl.length cap) pl) ∧ Aside0 (RowU (gb + 1) g10 wc (.slice A5 all.length c5) all) ∧ Aside0 (PBox wc w.heap.size none 0 0) ∧ Aside0 (Cur w0 wc g c (p + 400)) ∧ Aside0 (KeepBut w wc g none))
            case first =>
              by_cases hl0 : 0 < pl.length
              · have hlb : decide ((0 : Int) < (pl.length : Int)) = true := decide_eq_true (by omega)
                go_wp2_with (go_at_call 60; (refine (one_run w0 _ g c _ _ C6.out (by omega) (by decide)).mono ?_); rintro e wt ⟨⟨b, rfl⟩, hc1, hk1⟩)
                go_meet
                case rel => exact ⟨b, rfl, ⟨fun _ => hl0⟩, ⟨P10.out.keep hk1 (Nat.ne_of_gt hg10)⟩, ⟨RP.out.keep hk1 (by omega)⟩, ⟨RA.out.keep hk1 (by omega)⟩, ⟨R6.out.keep hk1 HNr⟩, ⟨hc1.mono (by omega)⟩, ⟨keep_then K6.out hk1⟩⟩
              · have hlb : decide ((0 : Int) < (pl.length : Int)) = false := decide_eq_false (by omega)
                go_wp2
                go_meet
                case rel => exact ⟨false, rfl, ⟨fun h => absurd h (by decide)⟩, P10, RP, RA, R6, ⟨C6.out.mono (by omega)⟩, K6⟩
            case rest =>
              clear P10 RP RA R6 C6 K6 hp10
              obtain ⟨b, rfl, HPB, P10, RP, RA, R6, C6, K6⟩ := hcut
              go_upto_if 62 with (fail)
              go_cut [] (fun wd => ∃ (pl2 : List S46) (A9 : Option Addr), Aside0 (pl2.length = pl.length) ∧ Aside0 (∀ y ∈ pl2, Ok8 y) ∧ Aside0 (PBox wd g10 A9 pl2.length cap) ∧ Aside0 (Row (g10 + 1) wd (.slice A9 pl2.length cap) pl2) ∧ Aside0 (RowU (gb + 1) g10 wd (.slice A5 all.length c5) all) ∧ Aside0 (PBox wd w.heap.size none 0 0) ∧ Aside0 (Cur w0 wd g c (p + 500)) ∧ Aside0 (KeepBut w wd g none))
              case first =>
                cases b with
                | false =>
                  go_wp2
                  go_meet
                  case rel => exact ⟨pl, A, ⟨rfl⟩, HPO, P10, RP, RA, R6, ⟨C6.out.mono (by omega)⟩, K6⟩
                | true =>
                  have hl0 := HPB.out rfl
                  obtain ⟨gp, rfl, hgp⟩ := row_form RP.out hl0
                  have hp10 := (blk_cell P10.out 0).trans rfl
                  go_upto_region 18 with (first
                    | (go_at_call 67; (refine (pick_run w0 _ g c _ (pl.length : Int) C6.out (by omega) (by omega)).mono ?_); rintro e wt ⟨⟨k, rfl, k0, k1⟩, hc1, hk1⟩; have Q10 := Aside0.mk (P10.out.keep hk1 (Nat.ne_of_gt hg10)); have RP2 := Aside0.mk (RP.out.keep hk1 (by omega)); have RA2 := Aside0.mk (RA.out.keep hk1 (by omega)); have R7 := Aside0.mk (R6.out.keep hk1 HNr); have C7 := Aside0.mk hc1; have K7 := Aside0.mk (keep_then K6.out hk1); clear P10 RP RA R6 C6 K6 hp10 hc1 hk1)
                    | (go_at_call 67; (refine (pick_run w0 _ g c _ 3 C7.out (by omega) (by omega)).mono ?_); rintro e wu ⟨⟨k3, rfl, k30, k31⟩, hc1, hk1⟩; have S10 := Aside0.mk (Q10.out.keep hk1 (Nat.ne_of_gt hg10)); have RP3 := Aside0.mk (RP2.out.keep hk1 (by omega)); have RA3 := Aside0.mk (RA2.out.keep hk1 (by omega)); have R8 := Aside0.mk (R7.out.keep hk1 HNr); have C8 := Aside0.mk hc1; have K8 := Aside0.mk (keep_then K7.out hk1); clear Q10 RP2 RA2 R7 C7 K7 hc1 hk1))
                  obtain ⟨h7c, h7f, h7r⟩ := row_f7 RP3.out k k0 (by omega)
                  obtain ⟨h4c, h4f, h4r⟩ := row_f4 RP3.out k k0 (by omega)
                  have kk1 : k < (pl.length : Int) := by omega
                  have q0 : (0 ≤ k) = True := eq_true k0
                  have q1 : (k < (pl.length : Int)) = True := eq_true kk1
                  have hp10 := (blk_cell S10.out 0).trans rfl
                  have ng1 : gp ≠ g := by omega
                  have ng2 : g10 ≠ gp := by omega
                  have ng3 : w.heap.size ≠ gp := by omega
                  have ng4 : w0.heap.size ≤ gp := by omega
                  have ng5 : w.heap.size ≤ gp := by omega
                  have ng6 : g10 ≤ gp := by omega
                  by_cases e0 : k3 = 0
                  · have eb0 : (k3 == 0) = true := beq_iff_eq.2 e0
                    go_wp2
                    repeat (go_quiet (fail); try go_wp2)
                    go_meet
                    case rel => exact pile_rel (row_s7 RP3.out HPO.out k k0 kk1 _) (blk_far (p := ⟨gp, _, none⟩) S10.out ng2 _) (RA3.out.far ng6 _) (blk_far (p := ⟨gp, _, none⟩) R8.out ng3 _) ((C8.out.set ng1 ng4 _ _).mono (by omega)) (keep_far (p := ⟨gp, _, none⟩) K8.out ng5 _)
                  have eb0 : (k3 == 0) = false := beq_eq_false_iff_ne.2 e0
                  by_cases e1 : k3 = 1
                  · have eb1 : (k3 == 1) = true := beq_iff_eq.2 e1
                    have hlw := blk_lt S10.out
                    go_upto_region 21 with (fail)
                    go_region_with (go_at_call 76; go_loud (refine (of_run w0 _ g c _ _ 2 [(⟨#[]⟩ : ByteArray), ⟨#[122, 122]⟩] (C8.out.below (below_alloc (below_drew (Below.refl _ _)) _)) (by omega) (C_strings _ (blk_new _ _) rfl (by decide)) (fun ad e => by cases e; exact Nat.ne_of_gt C8.out.lt) (by decide) (by decide)).mono ?_; rintro e wv ⟨⟨sv, rfl, hsv⟩, hc1, hk1⟩; have T10 := Aside0.mk (PBox.keep (PBox.below S10.out (below_alloc (below_drew (Below.refl _ _)) _)) hk1 (Nat.ne_of_gt hg10)); have RP4 := Aside0.mk (Row.keep (RP3.out.below (below_alloc (below_drew (Below.refl _ _)) _)) hk1 (by omega)); have RA4 := Aside0.mk (RowU.keep (RA3.out.below (below_alloc (below_drew (Below.refl _ _)) _)) hk1 (by omega)); have R9 := Aside0.mk (PBox.keep (PBox.below R8.out (below_alloc (below_drew (Below.refl _ _)) _)) hk1 HNr); have C9 := Aside0.mk hc1; have K9 := Aside0.mk (keep_then (keep_alloc (keep_drew K8.out) _) hk1); obtain ⟨h9c, h9f, h9r⟩ := row_f9 RP4.out k k0 (by omega); have hq10 := (blk_cell T10.out 0).trans rfl; clear hc1 hk1))
                    all_goals
                      go_wp2
                      go_meet
                      case rel => exact pile_rel (row_s9 RP4.out HPO.out k k0 kk1 _) (blk_far (p := ⟨gp, _, none⟩) T10.out ng2 _) (RA4.out.far ng6 _) (blk_far (p := ⟨gp, _, none⟩) R9.out ng3 _) ((C9.out.set ng1 ng4 _ _).mono (by omega)) (keep_far (p := ⟨gp, _, none⟩) K9.out ng5 _)
                  have eb1 : (k3 == 1) = false := beq_eq_false_iff_ne.2 e1
                  go_wp2
                  repeat (go_quiet (fail); try go_wp2)
                  go_meet
                  case rel => exact pile_rel (row_s4 RP3.out HPO.out k k0 kk1 _) (blk_far (p := ⟨gp, _, none⟩) S10.out ng2 _) (RA3.out.far ng6 _) (blk_far (p := ⟨gp, _, none⟩) R8.out ng3 _) ((C8.out.set ng1 ng4 _ _).mono (by omega)) (keep_far (p := ⟨gp, _, none⟩) K8.out ng5 _)
              case rest =>
                clear P10 RP RA R6 C6 K6 HPB
                obtain ⟨pl2, A9, HPE, HPO2, P10, RP, RA, R6, C6, K6⟩ := hcut
                have hp10 := (blk_cell P10.out 0).trans rfl
                have hf2 := blk_frozen R6.out 0
                have hp2 := (blk_cell R6.out 0).trans rfl
                go_wp2
                have e60 := HPE.out
                exact bodyPost_ret (results_ct rfl _ _ w.heap.size 29 #[.slice A9 pl2.length cap] (0, 0) _ rfl (blk_put (cs' := #[.slice A9 pl2.length cap]) R6.out 0 _ rfl) hu29 rfl (by kernel_rfl)) rfl ⟨⟨A9, cap, pl2, A5, c5, all, rfl, by rw [e60]; exact HPC.out, (RP.out.far (by omega) _).lower (by omega), by rw [e60]; exact hpl60, HPO2.out, HCA.out, (RA.out.farL (by omega) _).row.lower (by omega), hall, HAO.out⟩, (C6.out.set HNr HW00 0 _).mono (by omega), keep_far (p := ⟨w.heap.size, 0, none⟩) K6.out (Nat.le_refl _) _⟩
end Go.Proofs.Ytlkbbolkadkedaa.QFnCovers
