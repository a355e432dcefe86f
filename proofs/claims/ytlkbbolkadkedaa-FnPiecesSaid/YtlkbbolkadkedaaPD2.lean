import Derived.Test.YtlkbbolkadkedaaPD1
namespace Go.Proofs.Ytlkbbolkadkedaa.QFnPieces
open Go.RowKit Go.Proofs.YtlkbbolkadkedaaW.PrintWords Go.Proofs.YtlkbbolkadkedaaW.PrintLast Go.Proofs.YtlkbbolkadkedaaW.PrintMore
attribute [local go_sem] max2_int min2_int max_two min_two max_three min_three max_four min_four
set_option linter.unusedVariables false
set_option linter.unusedSimpArgs false
theorem blk_new2 (w : World) (o o2 : Obj) : ((w.alloc o).alloc o2).heap[w.heap.size + 1]? = some o2 := by
  have := blk_new (w.alloc o) o2
  have e : (w.alloc o).heap.size = w.heap.size + 1 := Array.size_push _
  rwa [e] at this
set_option maxHeartbeats 8000000 in
set_option maxRecDepth 100000 in
theorem whole_run (w0 w : World) (g : Nat) (c : List Int) (p : Int) (h : Cur w0 w g c p) (hp : p ≤ 100000000000) : Calls Try.prog 59 #[.pointer (some ⟨g, 0, none⟩)] w fun e w' => (∃ x : S46, e = .returned (.agg #[.int .i64 x.f0, .int .i64 x.f1, .bool x.f2, .int .i64 x.f3, .int .i64 x.f4, .int .i64 x.f5, .int .i64 x.f6, .int .i64 x.f7, .int .i64 x.f8, .string x.f9]) ∧ Ok8 x) ∧ Cur w0 w' g c (p + 80) ∧ KeepBut w w' g none := by
  have hu46 := Try.underlying46
  have HC := Aside0.mk h
  have HL0 := Aside0.mk h.lt
  have HW00 : w0.heap.size ≤ w.heap.size := by
    obtain ⟨_, _, _, _, _, _, _, hB, _⟩ := h
    exact hB.size
  have HK := Aside0.mk (KeepBut.refl w g none)
  clear h
  go_enter Try.func59, Try.ntmps59
  go_upto_if 13 with (first
    | ((with_reducible refine gate_dst (N := 2) rfl ?_); refine box_event ?hg (N := 2) ?hd (cs := #[.int .i64 0, .int .i64 0, .bool false, .int .i64 0, .int .i64 0, .int .i64 0, .int .i64 0, .int .i64 0, .int .i64 0, .string (⟨#[]⟩ : ByteArray)]) (t := 46) ?hr ?_; (case hd => rfl); (case hg => rfl); (case hr => first | (go_simp; done) | (go_simp; rfl)); intro gb hg w1 hbox hbl; subst hg; have BK := Aside0.mk hbox; have HK2 := Aside0.mk (keep_then HK.out (KeepBut.of_below hbl g none)); have HC2 := Aside0.mk (HC.out.below hbl); clear HC HK hbox hbl)
    | (go_at_call 61; go_loud ((refine (bundle_run w0 _ g c _ HC2.out (by omega)).mono ?_); rintro e w2 ⟨⟨x, rfl, hx⟩, hc1, hk1⟩; have B2 := Aside0.mk (keep_box hk1 BK.out (HC2.out.ne BK.out (by decide))); have K3 := Aside0.mk (keep_then HK2.out hk1); have C3 := Aside0.mk hc1; have HR2 : w.heap.size < w2.heap.size := blk_lt B2.out; have HWW : w.heap.size ≤ w2.heap.size := Nat.le_of_lt HR2; have HW2 : w0.heap.size ≤ w2.heap.size := (by obtain ⟨_, _, _, _, _, _, _, hB, _⟩ := C3.out; exact hB.size); clear HC2 HK2 BK hc1 hk1))
    | (go_at_call 76; go_loud (refine (of_run w0 _ g c _ _ 4 [(⟨#[104, 101, 108, 108, 111]⟩ : ByteArray), _, _, _] (C3.out.below (below_alloc (below_alloc (Below.refl _ _) _) _)) (by omega) (C_strings _ (blk_new2 _ _ _) rfl (by decide)) (fun ad e => by cases e; have := C3.out.lt; show w2.heap.size + 1 ≠ g; omega) (by decide) (by decide)).mono ?_; rintro e w3 ⟨⟨v, rfl, hv⟩, hc1, hk1⟩; have B3 := Aside0.mk (keep_box hk1 (blk_alloc (blk_new _ _) _) (Nat.ne_of_gt C3.out.lt)); have R3 := Aside0.mk (keep_box hk1 (blk_alloc (blk_alloc B2.out _) _) (Nat.ne_of_gt HL0.out)); have K4 := Aside0.mk (keep_then (keep_alloc (keep_alloc K3.out _) _) hk1); have C4 := Aside0.mk hc1; have HV := Aside0.mk hv; clear hv hc1 hk1; replace B3 : Aside0 (Box w3 w2.heap.size ⟨x.f0, x.f1, x.f2, x.f3, x.f4, x.f5, x.f6, 0, 0, x.f9⟩) := B3; have hz := B3.out.all; have hz9 := hz.2.2.2.2.2.2.2.2.2.1; have hzf9 := hz.2.2.2.2.2.2.2.2.2.2 9; clear hz))
    | (go_at_call 60; go_loud (refine (one_run w0 _ g c _ _ (C4.out.set (Nat.ne_of_gt C3.out.lt) HW2 9 _) (by omega) (by decide)).mono ?_; rintro e w4 ⟨⟨b, rfl⟩, hc1, hk1⟩; have B4 := Aside0.mk (Box.keep (B3.out.f9 _) hk1 (Nat.ne_of_gt C3.out.lt)); have R4 := Aside0.mk (Box.keep (show Box (w3.setCell ⟨w2.heap.size, 9, none⟩ _) w.heap.size nob from blk_far R3.out (Nat.ne_of_lt HR2) _) hk1 (Nat.ne_of_gt HL0.out)); have K5 := Aside0.mk (keep_then (keep_far (p := ⟨w2.heap.size, 9, none⟩) K4.out HWW _) hk1); have C5 := Aside0.mk hc1; clear hc1 hk1; have hy := B4.out.all; obtain ⟨hy0, hy1, hy2, hy3, hy4, hy5, hy6, hy7, hy8, hy9, hyf⟩ := hy; have hyf9 := hyf 9)))
  have HNr : w.heap.size ≠ g := Nat.ne_of_gt HL0.out
  have HN2 : w2.heap.size ≠ g := Nat.ne_of_gt C3.out.lt
  clear hy0 hy1 hy2 hy3 hy4 hy5 hy6 hy7 hy8 hy9 hyf hyf9 hz9 hzf9 B3 R3 K4 C4 HV B2 K3 C3
  generalize w2.heap.size = gb at *
  have hnr1 : w.heap.size ≠ gb := Nat.ne_of_lt HR2
  go_cut [] (fun wc => ∃ (x : S46), Aside0 (Box wc gb x) ∧ Aside0 (Ok8 x) ∧ Aside0 (Box wc w.heap.size nob) ∧ Aside0 (Cur w0 wc g c (p + 70)) ∧ Aside0 (KeepBut w wc g none))
  case first =>
    cases b with
    | false =>
      go_wp2
      go_meet
      case rel => exact ⟨_, B4, ⟨⟨Int.le_refl 0, Int.le_of_lt (by decide : (0 : Int) < 100)⟩⟩, R4, ⟨C5.out.mono (by omega)⟩, K5⟩
    | true =>
      go_wp2_with (first
        | (go_at_call 67; (refine (pick_run w0 _ g c _ _ C5.out (by omega) (by decide)).mono ?_); rintro e w5 ⟨⟨v2, rfl, v20, v21⟩, hc1, hk1⟩; have B5 := Aside0.mk (B4.out.keep hk1 HN2); have R5 := Aside0.mk (R4.out.keep hk1 HNr); have K6 := Aside0.mk (keep_then K5.out hk1); have C6 := Aside0.mk hc1; clear B4 R4 K5 C5 hc1 hk1)
        | ((with_reducible refine gate_dst (N := 17) rfl ?_); refine Kd.R_make (Kd.int .u8) w5.heap.size 5 rfl (N := 17) rfl 52 _ _ rfl (60 + v2) rfl rfl Try.underlying52 (.int .u8 0) 1 info5 rfl (by decide) (by omega) 0 (ok := fun _ => True) (okp := fun _ => True) rfl (fun _ hk => hk) trivial (by omega) (by omega) (Below.refl _ _) (Nat.le_refl _) ?_; intro v3 w6 ho hb hg_ hnew_; clear hg_ hnew_; have B6 := Aside0.mk (show Box w6 gb _ from blk_below B5.out hb); have R6 := Aside0.mk (show Box w6 w.heap.size nob from blk_below R5.out hb); have K7 := Aside0.mk (keep_then K6.out (KeepBut.of_below hb g none)); have C7 := Aside0.mk (C6.out.below hb); have hcv := own_string (P := Try.prog) Try.underlying52 Try.underlying5 Try.underlying9 (Kd.own_of_R ho); have hf9 := B6.out.all.2.2.2.2.2.2.2.2.2.2 9; have hc9 := B6.out.all.2.2.2.2.2.2.2.2.2.1; clear B5 R5 K6 C6 hb ho))
      go_meet
      case rel => exact ⟨_, ⟨B6.out.f9 _⟩, ⟨⟨Int.le_refl 0, Int.le_of_lt (by decide : (0 : Int) < 100)⟩⟩, ⟨R6.out.far hnr1 _⟩, ⟨(C7.out.set HN2 HW2 9 _).mono (by omega)⟩, ⟨keep_far K7.out HWW _⟩⟩
  case rest =>
    clear B4 C5 K5 R4
    obtain ⟨x, BX, HX, RB, HC, HK⟩ := hcut
    obtain ⟨hz0, hz1, hz2, hz3, hz4, hz5, hz6, hz7, hz8, hz9, hzf⟩ := BX.out.all
    obtain ⟨hr0, hr1, hr2, hr3, hr4, hr5, hr6, hr7, hr8, hr9, hrf⟩ := RB.out.all
    have hrf0 := hrf 0
    have hrf1 := hrf 1
    have hrf2 := hrf 2
    have hrf3 := hrf 3
    have hrf4 := hrf 4
    have hrf5 := hrf 5
    have hrf6 := hrf 6
    have hrf7 := hrf 7
    have hrf8 := hrf 8
    have hrf9 := hrf 9
    clear hrf hzf
    go_wp2
    exact bodyPost_ret (results_cell_row rfl _ _ w.heap.size 46 _ (0, 0) _ rfl (put_box RB.out) hu46 rfl (by kernel_rfl)) rfl ⟨⟨⟨_, _, _, _, _, _, _, _, _, _⟩, rfl, HX.out⟩, (put_cur HC.out HNr HW00).mono (by omega), put_keep HK.out (Nat.le_refl _)⟩
end Go.Proofs.Ytlkbbolkadkedaa.QFnPieces
