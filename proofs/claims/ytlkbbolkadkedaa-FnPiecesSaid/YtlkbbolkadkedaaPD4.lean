import Derived.Test.YtlkbbolkadkedaaPD3
namespace Go.Proofs.Ytlkbbolkadkedaa.QFnPieces
open Go.RowKit Go.Proofs.YtlkbbolkadkedaaW.PrintWords Go.Proofs.YtlkbbolkadkedaaW.PrintLast Go.Proofs.YtlkbbolkadkedaaW.PrintMore
attribute [local go_sem] max2_int min2_int max_two min_two max_three min_three max_four min_four
set_option linter.unusedVariables false
set_option linter.unusedSimpArgs false
theorem Cur.start {w w1 w2 : World} {A : Option Addr} {cap : Nat} {c : List Int} (hC : Kd.C (Kd.int .u8) w A c.length c) (hc : ∀ x ∈ c, 0 ≤ x ∧ x ≤ 255) (h1 : Below w.heap.size w w1) {g : Nat} (hg : g = w1.heap.size) (hb : w2.heap[g]? = some (Obj.cells #[.slice A c.length cap, .int .i64 0, .int .u64 0] 83 (0, 0))) (h2 : Below w1.heap.size w1 w2) : Cur w w2 g c 0 :=
  ⟨A, cap, 0, 0, hb, by rw [hg]; exact h1.size, hC, below_step h1 h2, Int.le_refl 0, Int.le_refl 0, hc⟩
theorem Cur.bel {w0 w : World} {g : Nat} {c : List Int} {p : Int} (h : Cur w0 w g c p) : Below w0.heap.size w0 w := by
  obtain ⟨_, _, _, _, _, _, _, hB, _⟩ := h
  exact hB
set_option maxHeartbeats 8000000 in
set_option maxRecDepth 100000 in
theorem drawCutPiece_run (w : World) (A : Option Addr) (cap : Nat) (c : List Int) (hC : Kd.C (Kd.int .u8) w A c.length c) (hc : ∀ x ∈ c, 0 ≤ x ∧ x ≤ 255) : Calls Try.prog 37 #[.slice A c.length cap] w fun e w' => (∃ (x : S46) (n : Int), e = .returned (.tuple #[.agg #[.int .i64 x.f0, .int .i64 x.f1, .bool x.f2, .int .i64 x.f3, .int .i64 x.f4, .int .i64 x.f5, .int .i64 x.f6, .int .i64 x.f7, .int .i64 x.f8, .string x.f9], .int .i64 n]) ∧ Ok8 x ∧ 0 ≤ n ∧ n ≤ 8) ∧ Below w.heap.size w w' := by
  have hu46 := Try.underlying46
  have HR := Aside0.mk hC
  have HCC := Aside0.mk hc
  clear hC hc
  go_enter Try.func37, Try.ntmps37
  go_wp2_with (first
    | ((with_reducible refine gate_dst (N := 2) rfl ?_); refine box_event ?hg (N := 2) ?hd (cs := #[.int .i64 0, .int .i64 0, .bool false, .int .i64 0, .int .i64 0, .int .i64 0, .int .i64 0, .int .i64 0, .int .i64 0, .string (⟨#[]⟩ : ByteArray)]) (t := 46) ?hr ?_; (case hd => rfl); (case hg => rfl); (case hr => first | (go_simp; done) | (go_simp; rfl)); intro gb hg w1 hbox hbl; subst hg; have BK := Aside0.mk (show Box w1 w.heap.size nob from hbox); have HB1 := Aside0.mk hbl; clear hbox hbl)
    | ((with_reducible refine gate_dst (N := 7) rfl ?_); refine box_event ?hg (N := 7) ?hd (cs := #[.slice A c.length cap, .int .i64 0, .int .u64 0]) (t := 83) ?hr ?_; (case hd => rfl); (case hg => rfl); (case hr => first | (go_simp; done) | (go_simp; rfl)); intro g hg w2 hbox hbl; have HC := Aside0.mk (Cur.start HR.out HCC.out HB1.out hg hbox hbl); have B2 := Aside0.mk (show Box w2 w.heap.size nob from blk_below BK.out hbl); have HNr : w.heap.size ≠ g := (by have := blk_lt BK.out; omega); clear hg hbox hbl BK)
    | (go_at_call 66; go_loud ((refine (piece_run w _ g c _ HC.out (by omega)).mono ?_); rintro e w3 ⟨⟨x, rfl, hx⟩, hc1, hk1⟩; have B3 := Aside0.mk (B2.out.keep hk1 HNr); have C3 := Aside0.mk hc1; have OX := Aside0.mk hx; clear hx HC B2 hc1 hk1))
    | (go_at_call 67; (refine (pick_run w _ g c _ _ C3.out (by omega) (by decide)).mono ?_); rintro e w4 ⟨⟨n, rfl, n0, n1⟩, hc1, hk1⟩; have B4 := Aside0.mk (B3.out.keep hk1 HNr); have C4 := Aside0.mk hc1; clear B3 C3 hc1 hk1; obtain ⟨hr0, hr1, hr2, hr3, hr4, hr5, hr6, hr7, hr8, hr9, hrf⟩ := B4.out.all; have hrf0 := hrf 0; have hrf1 := hrf 1; have hrf2 := hrf 2; have hrf3 := hrf 3; have hrf4 := hrf 4; have hrf5 := hrf 5; have hrf6 := hrf 6; have hrf7 := hrf 7; have hrf8 := hrf 8; have hrf9 := hrf 9; clear hrf))
  exact bodyPost_ret (results_ct rfl _ _ w.heap.size 46 _ (0, 0) _ rfl (put_box B4.out) hu46 rfl (by kernel_rfl)) rfl ⟨⟨x, n, rfl, OX.out, n0, by omega⟩, (put_cur C4.out HNr (Nat.le_refl _)).bel⟩
end Go.Proofs.Ytlkbbolkadkedaa.QFnPieces
