import Derived.Test.YtlkbbolkadkedaaPI
namespace Go.Proofs.Ytlkbbolkadkedaa.QFnPieces
open Go.RowKit Go.Proofs.YtlkbbolkadkedaaW.PrintWords Go.Proofs.YtlkbbolkadkedaaW.PrintLast Go.Proofs.YtlkbbolkadkedaaW.PrintMore
attribute [local go_sem] max2_int min2_int max_two min_two max_three min_three max_four min_four
set_option linter.unusedVariables false
set_option linter.unusedSimpArgs false
set_option maxHeartbeats 8000000 in
set_option maxRecDepth 100000 in
theorem piece_run (w0 w : World) (g : Nat) (c : List Int) (p : Int) (h : Cur w0 w g c p) (hp : p ≤ 10000000000) : Calls Try.prog 66 #[.pointer (some ⟨g, 0, none⟩)] w fun e w' => (∃ x : S46, e = .returned (.agg #[.int .i64 x.f0, .int .i64 x.f1, .bool x.f2, .int .i64 x.f3, .int .i64 x.f4, .int .i64 x.f5, .int .i64 x.f6, .int .i64 x.f7, .int .i64 x.f8, .string x.f9]) ∧ Ok8 x) ∧ Cur w0 w' g c (p + 200) ∧ KeepBut w w' g none := by
  have hu46 := Try.underlying46
  have HC := Aside0.mk h
  have HL0 := Aside0.mk h.lt
  have HNr : w.heap.size ≠ g := Nat.ne_of_gt HL0.out
  have HW00 : w0.heap.size ≤ w.heap.size := by
    obtain ⟨_, _, _, _, _, _, _, hB, _⟩ := h
    exact hB.size
  have HK := Aside0.mk (KeepBut.refl w g none)
  clear h
  go_enter Try.func66, Try.ntmps66
  go_upto_region 2 with (first
    | ((with_reducible refine gate_dst (N := 2) rfl ?_); refine box_event ?hg (N := 2) ?hd (cs := #[.int .i64 0, .int .i64 0, .bool false, .int .i64 0, .int .i64 0, .int .i64 0, .int .i64 0, .int .i64 0, .int .i64 0, .string (⟨#[]⟩ : ByteArray)]) (t := 46) ?hr ?_; (case hd => rfl); (case hg => rfl); (case hr => first | (go_simp; done) | (go_simp; rfl)); intro gb hg w1 hbox hbl; subst hg; have BK := Aside0.mk (show Box w1 w.heap.size nob from hbox); have HK2 := Aside0.mk (keep_then HK.out (KeepBut.of_below hbl g none)); have HC2 := Aside0.mk (HC.out.below hbl); clear HC HK hbox hbl)
    | (go_at_call 59; go_loud ((refine (whole_run w0 _ g c _ HC2.out (by omega)).mono ?_); rintro e w2 ⟨⟨x, rfl, hx⟩, hc1, hk1⟩; have B2 := Aside0.mk (BK.out.keep hk1 HNr); have K3 := Aside0.mk (keep_then HK2.out hk1); have C3 := Aside0.mk hc1; have OX := Aside0.mk hx; clear hx HC2 HK2 BK hc1 hk1))
    | (go_at_call 67; (refine (pick_run w0 _ g c _ _ C3.out (by omega) (by decide)).mono ?_); rintro e w3 ⟨⟨v, rfl, v0, v1⟩, hc1, hk1⟩; have B4 := Aside0.mk (B2.out.keep hk1 HNr); have K4 := Aside0.mk (keep_then K3.out hk1); have C4 := Aside0.mk hc1; clear B2 K3 C3 hc1 hk1)
    | (go_at_call 33; go_loud ((refine (cutS_any x _ OX.out w3).mono ?_); rintro e w4 ⟨A, cap, l, ok, rfl, hcap, hr, hl, ho, hne, hb⟩; have B5 := Aside0.mk (show Box w4 w.heap.size nob from blk_below B4.out hb); have K5 := Aside0.mk (keep_then K4.out (KeepBut.of_below hb g none)); have C5 := Aside0.mk (C4.out.below hb); have R5 := Aside0.mk hr; have HO := Aside0.mk ho; have G5 : g < w3.heap.size := C4.out.lt; have NE := Aside0.mk hne; clear B4 K4 C4 hb hr ho hne OX)))
  go_cut [19] (fun v19 wc => ∃ b : Bool, v19 = .bool b ∧ Aside0 (b = false → 0 < l.length) ∧ Aside0 (Box wc w.heap.size nob) ∧ Aside0 (Cur w0 wc g c (p + 100)) ∧ Aside0 (KeepBut w wc g none) ∧ Aside0 (Row w3.heap.size wc (.slice A l.length cap) l))
  case first =>
    cases ok with
    | false =>
      go_wp2
      go_meet
      case rel => exact ⟨true, rfl, ⟨fun h => absurd h (by decide)⟩, B5, ⟨C5.out.mono (by omega)⟩, K5, R5⟩
    | true =>
      have hne0 : 0 < l.length := NE.out rfl
      go_wp2_with (go_at_call 60; (refine (one_run w0 _ g c _ _ C5.out (by omega) (by decide)).mono ?_); rintro e w5 ⟨⟨b, rfl⟩, hc1, hk1⟩; have B6 := Aside0.mk (B5.out.keep hk1 HNr); have K6 := Aside0.mk (keep_then K5.out hk1); have C6 := Aside0.mk hc1; have R6 := Aside0.mk (R5.out.keep hk1 G5); clear B5 K5 C5 R5 hc1 hk1)
      go_meet
      case rel => exact ⟨b, rfl, ⟨fun _ => hne0⟩, B6, ⟨C6.out.mono (by omega)⟩, K6, R6⟩
  case rest =>
    clear B5 K5 C5 R5 NE
    obtain ⟨b, rfl, NE, RB, HC, HK, HR⟩ := hcut
    cases b with
    | true =>
      go_wp2_with (go_at_call 61; (refine (bundle_run w0 _ g c _ HC.out (by omega)).mono ?_); rintro e w5 ⟨⟨x, rfl, hx⟩, hc1, hk1⟩; have B6 := Aside0.mk (RB.out.keep hk1 HNr); have K6 := Aside0.mk (keep_then HK.out hk1); have C6 := Aside0.mk hc1; have OX := Aside0.mk hx; clear hx RB HK HC HR hc1 hk1; obtain ⟨hr0, hr1, hr2, hr3, hr4, hr5, hr6, hr7, hr8, hr9, hrf⟩ := B6.out.all; have hrf0 := hrf 0; have hrf1 := hrf 1; have hrf2 := hrf 2; have hrf3 := hrf 3; have hrf4 := hrf 4; have hrf5 := hrf 5; have hrf6 := hrf 6; have hrf7 := hrf 7; have hrf8 := hrf 8; have hrf9 := hrf 9; clear hrf)
      exact bodyPost_ret (results_cell_row rfl _ _ w.heap.size 46 _ (0, 0) _ rfl (put_box B6.out) hu46 rfl (by kernel_rfl)) rfl ⟨⟨⟨_, _, _, _, _, _, _, _, _, _⟩, rfl, OX.out⟩, (put_cur C6.out HNr HW00).mono (by omega), put_keep K6.out (Nat.le_refl _)⟩
    | false =>
      have hl0 := NE.out rfl
      go_wp2_with (go_at_call 67; (refine (pick_run w0 _ g c _ _ HC.out (by omega) (by omega)).mono ?_); rintro e w5 ⟨⟨i, rfl, i0, i1⟩, hc1, hk1⟩; have B6 := Aside0.mk (RB.out.keep hk1 HNr); have K6 := Aside0.mk (keep_then HK.out hk1); have C6 := Aside0.mk hc1; have R6 := Aside0.mk (HR.out.keep hk1 G5); have i2 : i < (l.length : Int) := (by omega); clear RB HK HC HR hc1 hk1; obtain ⟨hr0, hr1, hr2, hr3, hr4, hr5, hr6, hr7, hr8, hr9, hrf⟩ := B6.out.all; have hrf0 := hrf 0; have hrf1 := hrf 1; have hrf2 := hrf 2; have hrf3 := hrf 3; have hrf4 := hrf 4; have hrf5 := hrf 5; have hrf6 := hrf 6; have hrf7 := hrf 7; have hrf8 := hrf 8; have hrf9 := hrf 9; clear hrf; obtain ⟨ad, e, hx0, hx1, hx2, hx3, hx4, hx5, hx6, hx7, hx8, hx9⟩ := at_T46 R6.out.C i i0 i2; subst e; have OX := Aside0.mk (HO.out (rd_T46 l i) (rd_mem l i i0 i2)))
      exact bodyPost_ret (results_cell_row rfl _ _ w.heap.size 46 _ (0, 0) _ rfl (put_box B6.out) hu46 rfl (by kernel_rfl)) rfl ⟨⟨rd_T46 l i, rfl, OX.out⟩, (put_cur C6.out HNr HW00).mono (by omega), put_keep K6.out (Nat.le_refl _)⟩
end Go.Proofs.Ytlkbbolkadkedaa.QFnPieces
