import Derived.Test.YtlkbbolkadkedaaPD4
namespace Go.Proofs.Ytlkbbolkadkedaa.QFnPieces
open Go.RowKit Go.Proofs.YtlkbbolkadkedaaW.PrintWords Go.Proofs.YtlkbbolkadkedaaW.PrintLast Go.Proofs.YtlkbbolkadkedaaW.PrintMore
attribute [local go_sem] max2_int min2_int max_two min_two max_three min_three max_four min_four
set_option linter.unusedVariables false
set_option linter.unusedSimpArgs false
theorem put_row {w : World} {b gb : Nat} {v : Value} {l : List S46} {u0 u1 u2 u3 u4 u5 u6 u7 u8 u9 : Value} (h : Row b w v l) (hg : gb < b) : Row b ((((((((((w.setCell ⟨gb, 0, none⟩ u0).setCell ⟨gb, 1, none⟩ u1).setCell ⟨gb, 2, none⟩ u2).setCell ⟨gb, 3, none⟩ u3).setCell ⟨gb, 4, none⟩ u4).setCell ⟨gb, 5, none⟩ u5).setCell ⟨gb, 6, none⟩ u6).setCell ⟨gb, 7, none⟩ u7).setCell ⟨gb, 8, none⟩ u8).setCell ⟨gb, 9, none⟩ u9) v l := Row.far (j := 9) (Row.far (j := 8) (Row.far (j := 7) (Row.far (j := 6) (Row.far (j := 5) (Row.far (j := 4) (Row.far (j := 3) (Row.far (j := 2) (Row.far (j := 1) (Row.far (j := 0) h hg u0) hg u1) hg u2) hg u3) hg u4) hg u5) hg u6) hg u7) hg u8) hg u9
theorem put_below {w0 w : World} {gb : Nat} {u0 u1 u2 u3 u4 u5 u6 u7 u8 u9 : Value} (h : Below w0.heap.size w0 w) (hg : w0.heap.size ≤ gb) : Below w0.heap.size w0 ((((((((((w.setCell ⟨gb, 0, none⟩ u0).setCell ⟨gb, 1, none⟩ u1).setCell ⟨gb, 2, none⟩ u2).setCell ⟨gb, 3, none⟩ u3).setCell ⟨gb, 4, none⟩ u4).setCell ⟨gb, 5, none⟩ u5).setCell ⟨gb, 6, none⟩ u6).setCell ⟨gb, 7, none⟩ u7).setCell ⟨gb, 8, none⟩ u8).setCell ⟨gb, 9, none⟩ u9) := below_set (j := 9) (v := u9) (below_set (j := 8) (v := u8) (below_set (j := 7) (v := u7) (below_set (j := 6) (v := u6) (below_set (j := 5) (v := u5) (below_set (j := 4) (v := u4) (below_set (j := 3) (v := u3) (below_set (j := 2) (v := u2) (below_set (j := 1) (v := u1) (below_set (j := 0) (v := u0) h hg) hg) hg) hg) hg) hg) hg) hg) hg) hg
theorem blk_new_at (w : World) (o : Obj) {g : Nat} (e : g = w.heap.size) : (w.alloc o).heap[g]? = some o := by subst e; exact blk_new w o
theorem put_zero {w : World} {gb : Nat} {u0 u1 u2 u3 u4 u5 u6 u7 u8 u9 : Value} (h : w.heap[gb]? = some (Obj.cells #[.int .i64 0, .int .i64 0, .bool false, .int .i64 0, .int .i64 0, .int .i64 0, .int .i64 0, .int .i64 0, .int .i64 0, .string (⟨#[]⟩ : ByteArray)] 46 (0, 0))) : ((((((((((w.setCell ⟨gb, 0, none⟩ u0).setCell ⟨gb, 1, none⟩ u1).setCell ⟨gb, 2, none⟩ u2).setCell ⟨gb, 3, none⟩ u3).setCell ⟨gb, 4, none⟩ u4).setCell ⟨gb, 5, none⟩ u5).setCell ⟨gb, 6, none⟩ u6).setCell ⟨gb, 7, none⟩ u7).setCell ⟨gb, 8, none⟩ u8).setCell ⟨gb, 9, none⟩ u9).heap[gb]? = some (Obj.cells #[u0, u1, u2, u3, u4, u5, u6, u7, u8, u9] 46 (0, 0)) := put_box h
theorem put_blk {w : World} {r gb t : Nat} {cs : Array Value} {u0 u1 u2 u3 u4 u5 u6 u7 u8 u9 : Value} (h : w.heap[r]? = some (.cells cs t (0, 0))) (hne : r ≠ gb) : ((((((((((w.setCell ⟨gb, 0, none⟩ u0).setCell ⟨gb, 1, none⟩ u1).setCell ⟨gb, 2, none⟩ u2).setCell ⟨gb, 3, none⟩ u3).setCell ⟨gb, 4, none⟩ u4).setCell ⟨gb, 5, none⟩ u5).setCell ⟨gb, 6, none⟩ u6).setCell ⟨gb, 7, none⟩ u7).setCell ⟨gb, 8, none⟩ u8).setCell ⟨gb, 9, none⟩ u9).heap[r]? = some (.cells cs t (0, 0)) := blk_far (p := ⟨gb, 9, none⟩) (blk_far (p := ⟨gb, 8, none⟩) (blk_far (p := ⟨gb, 7, none⟩) (blk_far (p := ⟨gb, 6, none⟩) (blk_far (p := ⟨gb, 5, none⟩) (blk_far (p := ⟨gb, 4, none⟩) (blk_far (p := ⟨gb, 3, none⟩) (blk_far (p := ⟨gb, 2, none⟩) (blk_far (p := ⟨gb, 1, none⟩) (blk_far (p := ⟨gb, 0, none⟩) h hne u0) hne u1) hne u2) hne u3) hne u4) hne u5) hne u6) hne u7) hne u8) hne u9
set_option maxHeartbeats 8000000 in
set_option maxRecDepth 100000 in
theorem drawCutBundle_run (w : World) (A : Option Addr) (cap : Nat) (c : List Int) (hC : Kd.C (Kd.int .u8) w A c.length c) (hc : ∀ x ∈ c, 0 ≤ x ∧ x ≤ 255) : Calls Try.prog 31 #[.slice A c.length cap] w fun e w' => (∃ (x : S46) (n : Int), e = .returned (.tuple #[.agg #[.int .i64 x.f0, .int .i64 x.f1, .bool x.f2, .int .i64 x.f3, .int .i64 x.f4, .int .i64 x.f5, .int .i64 x.f6, .int .i64 x.f7, .int .i64 x.f8, .string x.f9], .int .i64 n]) ∧ Ok8 x) ∧ Below w.heap.size w w' := by
  have hu46 := Try.underlying46
  have HR := Aside0.mk hC
  have HCC := Aside0.mk hc
  clear hC hc
  go_enter Try.func31, Try.ntmps31
  go_upto_if 12 with (first
    | ((with_reducible refine gate_dst (N := 2) rfl ?_); refine box_event ?hg (N := 2) ?hd (cs := #[.int .i64 0, .int .i64 0, .bool false, .int .i64 0, .int .i64 0, .int .i64 0, .int .i64 0, .int .i64 0, .int .i64 0, .string (⟨#[]⟩ : ByteArray)]) (t := 46) ?hr ?_; (case hd => rfl); (case hg => rfl); (case hr => first | (go_simp; done) | (go_simp; rfl)); intro gb hg w1 hbox hbl; subst hg; have BK := Aside0.mk (show Box w1 w.heap.size nob from hbox); have HB1 := Aside0.mk hbl; clear hbox hbl)
    | ((with_reducible refine gate_dst (N := 8) rfl ?_); refine box_event ?hg (N := 8) ?hd (cs := #[.slice A c.length cap, .int .i64 0, .int .u64 0]) (t := 83) ?hr ?_; (case hd => rfl); (case hg => rfl); (case hr => first | (go_simp; done) | (go_simp; rfl)); intro g hg w2 hbox hbl; have HC := Aside0.mk (Cur.start HR.out HCC.out HB1.out hg hbox hbl); have B2 := Aside0.mk (show Box w2 w.heap.size nob from blk_below BK.out hbl); have HNr : w.heap.size ≠ g := (by have := blk_lt BK.out; omega); have HRg : w.heap.size < g := (by have := blk_lt BK.out; omega); clear hg hbox hbl BK)
    | (go_at_call 59; go_loud ((refine (whole_run w _ g c _ HC.out (by omega)).mono ?_); rintro e w3 ⟨⟨x, rfl, hx⟩, hc1, hk1⟩; have B3 := Aside0.mk (B2.out.keep hk1 HNr); have C3 := Aside0.mk hc1; have OX := Aside0.mk hx; have HG3 := C3.out.lt; have HW3 := C3.out.bel.size; clear hx HC B2 hc1 hk1))
    | (go_at_call 60; (refine (one_run w _ g c _ _ (C3.out.below (below_alloc (Below.refl _ _) _)) (by omega) (by decide)).mono ?_); rintro e w4 ⟨⟨b, rfl⟩, hc1, hk1⟩; have B4 := Aside0.mk ((B3.out.alloc _).keep hk1 HNr); have C4 := Aside0.mk hc1; have X4 := Aside0.mk (keep_box hk1 (blk_new _ _) (Nat.ne_of_gt HG3)); replace X4 : Aside0 (Box w4 w3.heap.size x) := X4; clear B3 C3 hc1 hk1))
  have HX2 : w3.heap.size ≠ g := Nat.ne_of_gt HG3
  have HRb : w.heap.size ≠ w3.heap.size := by omega
  generalize w3.heap.size = gb at *
  go_cut [] (fun wc => ∃ x : S46, Aside0 (Box wc gb x) ∧ Aside0 (Ok8 x) ∧ Aside0 (Box wc w.heap.size nob) ∧ Aside0 (Cur w wc g c 200))
  case first =>
    cases b with
    | false =>
      go_wp2
      go_meet
      case rel => exact ⟨x, X4, OX, B4, ⟨C4.out.mono (by omega)⟩⟩
    | true =>
      go_wp2_with (go_at_call 61; (refine (bundle_run w _ g c _ C4.out (by omega)).mono ?_); rintro e w5 ⟨⟨x2, rfl, hx⟩, hc1, hk1⟩; have B5 := Aside0.mk (B4.out.keep hk1 HNr); have C5 := Aside0.mk hc1; have X5 := Aside0.mk (X4.out.keep hk1 HX2); have OX2 := Aside0.mk hx; clear hx B4 C4 X4 hc1 hk1; obtain ⟨hr0, hr1, hr2, hr3, hr4, hr5, hr6, hr7, hr8, hr9, hrf⟩ := X5.out.all; have hrf0 := hrf 0; have hrf1 := hrf 1; have hrf2 := hrf 2; have hrf3 := hrf 3; have hrf4 := hrf 4; have hrf5 := hrf 5; have hrf6 := hrf 6; have hrf7 := hrf 7; have hrf8 := hrf 8; have hrf9 := hrf 9; clear hrf)
      go_meet
      case rel => exact ⟨x2, ⟨put_box X5.out⟩, OX2, ⟨put_blk B5.out HRb⟩, ⟨(put_cur C5.out HX2 HW3).mono (by omega)⟩⟩
  case rest =>
    clear B4 C4 X4 OX
    obtain ⟨y, BY, OY, RB, HC⟩ := hcut
    obtain ⟨hz0, hz1, hz2, hz3, hz4, hz5, hz6, hz7, hz8, hz9, hzf⟩ := BY.out.all
    obtain ⟨hr0, hr1, hr2, hr3, hr4, hr5, hr6, hr7, hr8, hr9, hrf⟩ := RB.out.all
    have hrf0 := hrf 0
    have hrf1 := hrf 1
    have hrf2 := hrf 2
    have hrf3 := hrf 3
    have hrf4 := hrf 4
    have hrf5 := hrf 5
    have hrf6 := hrf 6
    have hrf7 := hrf 7
    have hrf8 := hrf 8
    have hrf9 := hrf 9
    clear hrf hzf
    have hlt1 := blk_lt BY.out
    have hlt2 := blk_lt RB.out
    go_wp2
    go_region_with (first
      | (go_at_call 62; go_loud (refine (among_run w _ g c _ _ 7 [0, 1, 2, 3, 7, 60, 61] (HC.out.below (below_alloc (below_drew (Below.refl _ _)) _)) (by omega) (C_ints _ (blk_new _ _) rfl (by decide)) (fun ad e => by cases e; exact Nat.ne_of_gt HC.out.lt) (by decide) (by decide)).mono ?_; rintro e w6 ⟨⟨n, rfl, hn⟩, hc1, hk1⟩; have C6 := Aside0.mk hc1; have Y6 := Aside0.mk (Box.keep (Box.alloc (show Box (World.drew wc) gb y from blk_drew BY.out) _) hk1 HX2); have R6 := Aside0.mk (Box.keep (Box.alloc (show Box (World.drew wc) w.heap.size nob from blk_drew RB.out) _) hk1 HNr); obtain ⟨hy0, hy1, hy2, hy3, hy4, hy5, hy6, hy7, hy8, hy9, hyf⟩ := Y6.out.all; obtain ⟨hq0, hq1, hq2, hq3, hq4, hq5, hq6, hq7, hq8, hq9, hqf⟩ := R6.out.all; have hqf0 := hqf 0; have hqf1 := hqf 1; have hqf2 := hqf 2; have hqf3 := hqf 3; have hqf4 := hqf 4; have hqf5 := hqf 5; have hqf6 := hqf 6; have hqf7 := hqf 7; have hqf8 := hqf 8; have hqf9 := hqf 9; clear hqf hyf hc1 hk1)))
    all_goals
      go_wp2
      exact bodyPost_ret (results_ct rfl _ _ w.heap.size 46 _ (0, 0) _ rfl (put_box R6.out) hu46 rfl (by kernel_rfl)) rfl ⟨⟨y, n, rfl, OY.out⟩, (put_cur C6.out HNr (Nat.le_refl _)).bel⟩
end Go.Proofs.Ytlkbbolkadkedaa.QFnPieces
