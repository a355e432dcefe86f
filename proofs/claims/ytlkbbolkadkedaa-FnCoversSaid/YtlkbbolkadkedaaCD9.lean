import Derived.Test.YtlkbbolkadkedaaCD7
namespace Go.Proofs.Ytlkbbolkadkedaa.QFnCovers
open Go.RowKit Go.Proofs.Ytlkbbolkadkedaa.Pure Go.Proofs.Ytlkbbolkadkedaa.Plain Go.Proofs.YtlkbbolkadkedaaW.PrintWords Go.Proofs.YtlkbbolkadkedaaW.PrintLast Go.Proofs.YtlkbbolkadkedaaW.PrintMore
attribute [local go_sem] max2_int min2_int max_two min_two max_three min_three max_four min_four
set_option linter.unusedVariables false
set_option linter.unusedSimpArgs false
set_option maxHeartbeats 80000000 in
set_option maxRecDepth 100000 in
theorem drawGoodPile_run (w : World) (A : Option Addr) (cap : Nat) (c : List Int) (hC : Kd.C (Kd.int .u8) w A c.length c) (hc : ∀ x ∈ c, 0 ≤ x ∧ x ≤ 255) : Calls Try.prog 69 #[.slice A c.length cap] w fun e w' => (∃ A2 cap2 l, e = .returned (.agg #[.slice A2 l.length cap2]) ∧ l.length ≤ cap2 ∧ Row w.heap.size w' (.slice A2 l.length cap2) l ∧ l.length ≤ 60 ∧ ∀ y ∈ l, Ok8 y) ∧ Below w.heap.size w w' := by
  have hu29 := Try.underlying29
  have HR := Aside0.mk hC
  have HCC := Aside0.mk hc
  clear hC hc
  go_enter Try.func69, Try.ntmps69
  go_wp2_with (first
    | ((with_reducible refine gate_dst (N := 2) rfl ?_); refine box_event ?hg (N := 2) ?hd (cs := #[.slice none 0 0]) (t := 29) ?hr ?_; (case hd => rfl); (case hg => rfl); (case hr => first | (go_simp; done) | (go_simp; rfl)); intro gb hg w1 hbox hbl; subst hg; have BK := Aside0.mk (show PBox w1 w.heap.size none 0 0 from hbox); have HB1 := Aside0.mk hbl; clear hbox hbl)
    | ((with_reducible refine gate_dst (N := 8) rfl ?_); refine box_event ?hg (N := 8) ?hd (cs := #[.slice A c.length cap, .int .i64 0, .int .u64 0]) (t := 83) ?hr ?_; (case hd => rfl); (case hg => rfl); (case hr => first | (go_simp; done) | (go_simp; rfl)); intro g hg w2 hbox hbl; have HC := Aside0.mk (Cur.start HR.out HCC.out HB1.out hg hbox hbl); have B2 := Aside0.mk (BK.out.below hbl); have HNr : w.heap.size ≠ g := (by have := blk_lt BK.out; omega); have HW2 : w.heap.size ≤ w2.heap.size := (by have := blk_lt B2.out; omega); clear hg hbox hbl BK)
    | (go_at_call 68; go_loud ((refine (pile_run w _ g c _ HC.out (by omega)).mono ?_); rintro e w3 ⟨⟨A2, cap2, l, A3, cap3, all, rfl, h1, h2, h3, h4, _⟩, hc1, hk1⟩; have B3 := Aside0.mk (B2.out.keep hk1 HNr); have C3 := Aside0.mk hc1; have RL := Aside0.mk (h2.lower HW2); have HCL := Aside0.mk h1; have HLL := Aside0.mk h3; have HLO := Aside0.mk h4; clear h1 h2 h3 h4 HC B2 hc1 hk1; have hp2 := (blk_cell B3.out 0).trans rfl; have hf2 := blk_frozen B3.out 0; have hlt := blk_lt B3.out)))
  exact bodyPost_ret (results_cell_row rfl _ _ w.heap.size 29 #[.slice A2 l.length cap2] (0, 0) _ rfl (blk_alloc (blk_put (cs' := #[.slice A2 l.length cap2]) B3.out 0 _ rfl) _) hu29 rfl (by kernel_rfl)) rfl ⟨⟨A2, cap2, l, rfl, HCL.out, (RL.out.typed B3.out (by decide) _).alloc _, HLL.out, HLO.out⟩, below_alloc (below_set C3.out.bel (Nat.le_refl _)) _⟩
set_option maxHeartbeats 80000000 in
set_option maxRecDepth 100000 in
theorem drawWholeOf_run (w : World) (A : Option Addr) (cap : Nat) (c : List Int) (hC : Kd.C (Kd.int .u8) w A c.length c) (hc : ∀ x ∈ c, 0 ≤ x ∧ x ≤ 255) : Calls Try.prog 42 #[.slice A c.length cap] w fun e w' => (∃ A2 cap2 l, e = .returned (.agg #[.slice A2 l.length cap2]) ∧ l.length ≤ cap2 ∧ Row w.heap.size w' (.slice A2 l.length cap2) l ∧ l.length ≤ 60 ∧ ∀ y ∈ l, Ok8 y) ∧ Below w.heap.size w w' := by
  have hu29 := Try.underlying29
  have HR := Aside0.mk hC
  have HCC := Aside0.mk hc
  clear hC hc
  go_enter Try.func42, Try.ntmps42
  go_wp2_with (first
    | ((with_reducible refine gate_dst (N := 2) rfl ?_); refine box_event ?hg (N := 2) ?hd (cs := #[.slice none 0 0]) (t := 29) ?hr ?_; (case hd => rfl); (case hg => rfl); (case hr => first | (go_simp; done) | (go_simp; rfl)); intro gb hg w1 hbox hbl; subst hg; have BK := Aside0.mk (show PBox w1 w.heap.size none 0 0 from hbox); have HB1 := Aside0.mk hbl; clear hbox hbl)
    | (go_at_call 69; go_loud ((refine (drawGoodPile_run w1 A cap c (Kd.C_below HR.out HB1.out) HCC.out).mono ?_); rintro e w3 ⟨⟨A2, cap2, l, rfl, h1, h2, h3, h4⟩, hb⟩; have B3 := Aside0.mk (BK.out.below hb); have HB3 := Aside0.mk (below_step HB1.out hb); have RL := Aside0.mk (h2.lower HB1.out.size); have HCL := Aside0.mk h1; have HLL := Aside0.mk h3; have HLO := Aside0.mk h4; clear h1 h2 h3 h4 BK hb; have hp2 := (blk_cell B3.out 0).trans rfl; have hf2 := blk_frozen B3.out 0)))
  exact bodyPost_ret (results_cell_row rfl _ _ w.heap.size 29 #[.slice A2 l.length cap2] (0, 0) _ rfl (blk_put (cs' := #[.slice A2 l.length cap2]) B3.out 0 _ rfl) hu29 rfl (by kernel_rfl)) rfl ⟨⟨A2, cap2, l, rfl, HCL.out, RL.out.typed B3.out (by decide) _, HLL.out, HLO.out⟩, below_set HB3.out (Nat.le_refl _)⟩
end Go.Proofs.Ytlkbbolkadkedaa.QFnCovers
namespace Go.Proofs.Ytlkbbolkadkedaa.QFnCovers
open Go.RowKit Go.Proofs.Ytlkbbolkadkedaa.Pure Go.Proofs.Ytlkbbolkadkedaa.Plain Go.Proofs.YtlkbbolkadkedaaW.PrintWords Go.Proofs.YtlkbbolkadkedaaW.PrintLast Go.Proofs.YtlkbbolkadkedaaW.PrintMore
attribute [local go_sem] max2_int min2_int max_two min_two max_three min_three max_four min_four
set_option linter.unusedVariables false
set_option linter.unusedSimpArgs false
theorem row_cells {b : Nat} {W : World} {g cap : Nat} {l : List S46} (h : Row b W (.slice (some ⟨g, 0, none⟩) l.length cap) l) (i : Int) (h0 : 0 ≤ i) (h1 : i < (l.length : Int)) : W.cell? ⟨g, i.toNat * 10, none⟩ = some (.int .i64 (rd_T46 l i).f0) ∧ W.cell? ⟨g, i.toNat * 10 + 1, none⟩ = some (.int .i64 (rd_T46 l i).f1) ∧ W.cell? ⟨g, i.toNat * 10 + 2, none⟩ = some (.bool (rd_T46 l i).f2) ∧ W.cell? ⟨g, i.toNat * 10 + 3, none⟩ = some (.int .i64 (rd_T46 l i).f3) ∧ W.cell? ⟨g, i.toNat * 10 + 4, none⟩ = some (.int .i64 (rd_T46 l i).f4) ∧ W.cell? ⟨g, i.toNat * 10 + 5, none⟩ = some (.int .i64 (rd_T46 l i).f5) ∧ W.cell? ⟨g, i.toNat * 10 + 6, none⟩ = some (.int .i64 (rd_T46 l i).f6) ∧ W.cell? ⟨g, i.toNat * 10 + 7, none⟩ = some (.int .i64 (rd_T46 l i).f7) ∧ W.cell? ⟨g, i.toNat * 10 + 8, none⟩ = some (.int .i64 (rd_T46 l i).f8) ∧ W.cell? ⟨g, i.toNat * 10 + 9, none⟩ = some (.string (rd_T46 l i).f9) := by
  obtain ⟨cs, hcl, hM, hcc, hfr⟩ := Kd.R_elem h z46 i h0 h1
  obtain rfl := k46_openM hM
  exact ⟨hcc 0 _ rfl, hcc 1 _ rfl, hcc 2 _ rfl, hcc 3 _ rfl, hcc 4 _ rfl, hcc 5 _ rfl, hcc 6 _ rfl, hcc 7 _ rfl, hcc 8 _ rfl, hcc 9 _ rfl⟩
set_option maxHeartbeats 80000000 in
set_option maxRecDepth 100000 in
theorem drawAddPiece_run (w : World) (A : Option Addr) (cap : Nat) (c : List Int) (hC : Kd.C (Kd.int .u8) w A c.length c) (hc : ∀ x ∈ c, 0 ≤ x ∧ x ≤ 255) : Calls Try.prog 40 #[.slice A c.length cap] w fun e w' => (∃ A2 cap2 l x, e = .returned (.tuple #[.agg #[.slice A2 l.length cap2], .agg #[.int .i64 x.f0, .int .i64 x.f1, .bool x.f2, .int .i64 x.f3, .int .i64 x.f4, .int .i64 x.f5, .int .i64 x.f6, .int .i64 x.f7, .int .i64 x.f8, .string x.f9]]) ∧ l.length ≤ cap2 ∧ Row w.heap.size w' (.slice A2 l.length cap2) l ∧ l.length ≤ 60 ∧ (∀ y ∈ l, Ok8 y) ∧ Ok8 x) ∧ Below w.heap.size w w' := by
  have hu29 := Try.underlying29
  have hu46 := Try.underlying46
  have HR := Aside0.mk hC
  have HCC := Aside0.mk hc
  clear hC hc
  go_enter Try.func40, Try.ntmps40
  go_upto_region 3 with (first
    | ((with_reducible refine gate_dst (N := 2) rfl ?_); refine box_event ?hg (N := 2) ?hd (cs := #[.slice none 0 0]) (t := 29) ?hr ?_; (case hd => rfl); (case hg => rfl); (case hr => first | (go_simp; done) | (go_simp; rfl)); intro gb hg w1 hbox hbl; subst hg; have BK := Aside0.mk (show PBox w1 w.heap.size none 0 0 from hbox); have HB1 := Aside0.mk hbl; clear hbox hbl)
    | ((with_reducible refine gate_dst (N := 3) rfl ?_); refine box_event ?hg (N := 3) ?hd (cs := #[.int .i64 0, .int .i64 0, .bool false, .int .i64 0, .int .i64 0, .int .i64 0, .int .i64 0, .int .i64 0, .int .i64 0, .string (⟨#[]⟩ : ByteArray)]) (t := 46) ?hr ?_; (case hd => rfl); (case hg => rfl); (case hr => first | (go_simp; done) | (go_simp; rfl)); intro g3 hg3 w2 hbox hbl; have B3 := Aside0.mk (show Box w2 g3 nob from hbox); have BK2 := Aside0.mk (BK.out.below hbl); have HB2 := Aside0.mk (below_step HB1.out hbl); have HR3 : w.heap.size < g3 := (by have := blk_lt BK.out; omega); clear hg3 hbox hbl BK HB1)
    | ((with_reducible refine gate_dst (N := 9) rfl ?_); refine box_event ?hg (N := 9) ?hd (cs := #[.slice A c.length cap, .int .i64 0, .int .u64 0]) (t := 83) ?hr ?_; (case hd => rfl); (case hg => rfl); (case hr => first | (go_simp; done) | (go_simp; rfl)); intro g hg w3 hbox hbl; have HC := Aside0.mk (Cur.start HR.out HCC.out HB2.out hg hbox hbl); have P2 := Aside0.mk (BK2.out.below hbl); have B4 := Aside0.mk (B3.out.below hbl); have H3g : g3 < g := (by have := blk_lt B3.out; omega); have HW3 : g < w3.heap.size := blk_lt hbox; clear hg hbox hbl BK2 B3)
    | (go_at_call 68; go_loud ((refine (pile_run w _ g c _ HC.out (by omega)).mono ?_); rintro e w4 ⟨⟨A2, cap2, l, A3, cap3, all, rfl, h1, h2, h3, h4, h5, h6, h7, h8⟩, hc1, hk1⟩; have P5 := Aside0.mk (P2.out.keep hk1 (by omega)); have B5 := Aside0.mk (B4.out.keep hk1 (by omega)); have C5 := Aside0.mk hc1; have HS5 := hk1.1; have RL := Aside0.mk (h2.lower (show g + 1 ≤ _ from HW3)); have RA := Aside0.mk (h6.lower (show g + 1 ≤ _ from HW3)); have HCL := Aside0.mk h1; have HLL := Aside0.mk h3; have HLO := Aside0.mk h4; have HAL := h7; have HAO := Aside0.mk h8; clear h1 h2 h3 h4 h5 h6 h7 h8 HC P2 B4 hc1 hk1)))
  obtain ⟨o, ho⟩ : ∃ o, o = Obj.cells #[.slice A2 l.length cap2] 29 (0, 0) := ⟨_, rfl⟩
  have hal := below_alloc (Below.refl w4.heap.size w4) o
  have Q5 := Aside0.mk (show PBox (w4.alloc o) w4.heap.size A2 l.length cap2 from by rw [ho]; exact blk_new _ _)
  have P6 := Aside0.mk (P5.out.below hal)
  have B6 := Aside0.mk (B5.out.below hal)
  have C6 := Aside0.mk (C5.out.below hal)
  have RL6 := Aside0.mk (RL.out.below hal)
  have RA6 := Aside0.mk (RA.out.below hal)
  have hg4 : g < w4.heap.size := C5.out.lt
  rw [← ho]
  clear ho hal P5 B5 C5 RL RA
  generalize w4.alloc o = w5 at *
  generalize w4.heap.size = g5 at *
  have n1 : w.heap.size ≠ g := by omega
  have n2 : g3 ≠ g := by omega
  have n3 : g5 ≠ g := by omega
  have n4 : w.heap.size ≠ g3 := by omega
  have n5 : g3 ≠ w.heap.size := by omega
  have n6 : w.heap.size ≤ g3 := by omega
  go_cut [22] (fun v22 wc => ∃ b : Bool, v22 = .bool b ∧ Aside0 (b = true → 0 < all.length) ∧ Aside0 (PBox wc g5 A2 l.length cap2) ∧ Aside0 (PBox wc w.heap.size none 0 0) ∧ Aside0 (Box wc g3 nob) ∧ Aside0 (Cur w wc g c 2000) ∧ Aside0 (Row (g + 1) wc (.slice A2 l.length cap2) l) ∧ Aside0 (Row (g + 1) wc (.slice A3 all.length cap3) all))
  case first =>
    by_cases hl0 : 0 < all.length
    · have hlb : decide ((0 : Int) < (all.length : Int)) = true := decide_eq_true (by omega)
      go_wp2_with (go_at_call 60; (refine (one_run w _ g c _ _ C6.out (by omega) (by decide)).mono ?_); rintro e wt ⟨⟨b, rfl⟩, hc1, hk1⟩)
      go_meet
      case rel => exact ⟨!b, rfl, ⟨fun _ => hl0⟩, ⟨Q5.out.keep hk1 n3⟩, ⟨P6.out.keep hk1 n1⟩, ⟨B6.out.keep hk1 n2⟩, ⟨hc1.mono (by omega)⟩, ⟨RL6.out.keep hk1 (by omega)⟩, ⟨RA6.out.keep hk1 (by omega)⟩⟩
    · have hlb : decide ((0 : Int) < (all.length : Int)) = false := decide_eq_false (by omega)
      go_wp2
      go_meet
      case rel => exact ⟨false, rfl, ⟨fun h => absurd h (by decide)⟩, Q5, P6, B6, ⟨C6.out.mono (by omega)⟩, RL6, RA6⟩
  case rest =>
    clear Q5 P6 B6 C6 RL6 RA6
    obtain ⟨b, rfl, HPB, Q5, P6, B6, C6, RL6, RA6⟩ := hcut
    cases b with
    | true =>
      go_upto_region 4 with (fail)
      have hl0 := HPB.out rfl
      obtain ⟨gp, rfl, hgp⟩ := row_form RA6.out hl0
      have m1 : gp ≠ w.heap.size := by omega
      have m2 : w.heap.size ≠ gp := by omega
      have m3 : gp ≠ g3 := by omega
      have hq6 := (blk_cell Q5.out 0).trans rfl
      go_region_with (go_at_call 67; go_loud ((refine (pick_run w _ g c _ (all.length : Int) (C6.out.below (below_drew (Below.refl _ _))) (by omega) (by omega)).mono ?_); rintro e wv ⟨⟨k, rfl, k0, k1⟩, hc1, hk1⟩; have RA7 := Aside0.mk (Row.keep (RA6.out.below (below_drew (Below.refl _ _))) hk1 (by omega)); have Q7 := Aside0.mk (PBox.keep (show PBox (World.drew wc) g5 A2 l.length cap2 from blk_drew Q5.out) hk1 n3); have P7 := Aside0.mk (PBox.keep (show PBox (World.drew wc) w.heap.size none 0 0 from blk_drew P6.out) hk1 n1); have B7 := Aside0.mk (Box.keep (show Box (World.drew wc) g3 nob from blk_drew B6.out) hk1 n2); have C7 := Aside0.mk hc1; have RL7 := Aside0.mk (Row.keep (RL6.out.below (below_drew (Below.refl _ _))) hk1 (by omega)); have hq5 := (blk_cell Q7.out 0).trans rfl; have hp2 := (blk_cell P7.out 0).trans rfl; have hf2 := blk_frozen P7.out 0; obtain ⟨hr0, hr1, hr2, hr3, hr4, hr5, hr6, hr7, hr8, hr9, hrf⟩ := B7.out.all; have hrf0 := hrf 0; have hrf1 := hrf 1; have hrf2 := hrf 2; have hrf3 := hrf 3; have hrf4 := hrf 4; have hrf5 := hrf 5; have hrf6 := hrf 6; have hrf7 := hrf 7; have hrf8 := hrf 8; have hrf9 := hrf 9; clear hrf hc1; have kk1 : k < (all.length : Int) := (by omega); obtain ⟨hx0, hx1, hx2, hx3, hx4, hx5, hx6, hx7, hx8, hx9⟩ := row_cells RA7.out k k0 kk1; have q0 : (0 ≤ k) = True := eq_true k0; have q1 : (k < (all.length : Int)) = True := eq_true kk1; have OX := Aside0.mk (HAO.out _ (rd_mem all k k0 kk1)); clear hk1))
      all_goals
        go_wp2
        first
          | exact bodyPost_ret (results_cc rfl _ _ w.heap.size g3 29 46 #[.slice A2 l.length cap2] #[.int .i64 (rd_T46 all k).f0, .int .i64 (rd_T46 all k).f1, .bool (rd_T46 all k).f2, .int .i64 (rd_T46 all k).f3, .int .i64 (rd_T46 all k).f4, .int .i64 (rd_T46 all k).f5, .int .i64 (rd_T46 all k).f6, .int .i64 (rd_T46 all k).f7, .int .i64 (rd_T46 all k).f8, .string (rd_T46 all k).f9] (0, 0) (0, 0) _ _ rfl (put_blk (blk_put (cs' := #[.slice A2 l.length cap2]) P7.out 0 _ rfl) n4) hu29 rfl (by kernel_rfl) rfl (put_box (blk_far (p := ⟨w.heap.size, 0, none⟩) B7.out n5 _)) hu46 rfl (by kernel_rfl)) rfl ⟨⟨A2, cap2, l, (rd_T46 all k), rfl, HCL.out, (put_row (RL7.out.far (by omega) _) (by omega)).lower (by omega), HLL.out, HLO.out, OX.out⟩, put_below (below_set C7.out.bel (Nat.le_refl _)) n6⟩
          | exact bodyPost_ret (results_cc rfl _ _ w.heap.size g3 29 46 #[.slice A2 l.length cap2] #[.int .i64 (rd_T46 all k).f0, .int .i64 (rd_T46 all k).f1, .bool (rd_T46 all k).f2, .int .i64 (rd_T46 all k).f3, .int .i64 (rd_T46 all k).f4, .int .i64 (rd_T46 all k).f5, .int .i64 (rd_T46 all k).f6, .int .i64 (rd_T46 all k).f7, .int .i64 (rd_T46 all k).f8, .string (rd_T46 all k).f9] (0, 0) (0, 0) _ _ rfl (blk_put (cs' := #[.slice A2 l.length cap2]) (put_blk P7.out n4) 0 _ rfl) hu29 rfl (by kernel_rfl) rfl (blk_far (p := ⟨w.heap.size, 0, none⟩) (put_box B7.out) n5 _) hu46 rfl (by kernel_rfl)) rfl ⟨⟨A2, cap2, l, (rd_T46 all k), rfl, HCL.out, ((put_row RL7.out (by omega)).far (by omega) _).lower (by omega), HLL.out, HLO.out, OX.out⟩, below_set (put_below C7.out.bel n6) (Nat.le_refl _)⟩
    | false =>
      go_upto_region 5 with (fail)
      have hq6 := (blk_cell Q5.out 0).trans rfl
      go_region_with (go_at_call 66; go_loud ((refine (piece_run w _ g c _ (C6.out.below (below_drew (Below.refl _ _))) (by omega)).mono ?_); rintro e wv ⟨⟨x, rfl, hx⟩, hc1, hk1⟩; have OX := Aside0.mk hx; have Q7 := Aside0.mk (PBox.keep (show PBox (World.drew wc) g5 A2 l.length cap2 from blk_drew Q5.out) hk1 n3); have P7 := Aside0.mk (PBox.keep (show PBox (World.drew wc) w.heap.size none 0 0 from blk_drew P6.out) hk1 n1); have B7 := Aside0.mk (Box.keep (show Box (World.drew wc) g3 nob from blk_drew B6.out) hk1 n2); have C7 := Aside0.mk hc1; have RL7 := Aside0.mk (Row.keep (RL6.out.below (below_drew (Below.refl _ _))) hk1 (by omega)); have hq5 := (blk_cell Q7.out 0).trans rfl; have hp2 := (blk_cell P7.out 0).trans rfl; have hf2 := blk_frozen P7.out 0; obtain ⟨hr0, hr1, hr2, hr3, hr4, hr5, hr6, hr7, hr8, hr9, hrf⟩ := B7.out.all; have hrf0 := hrf 0; have hrf1 := hrf 1; have hrf2 := hrf 2; have hrf3 := hrf 3; have hrf4 := hrf 4; have hrf5 := hrf 5; have hrf6 := hrf 6; have hrf7 := hrf 7; have hrf8 := hrf 8; have hrf9 := hrf 9; clear hrf hc1; clear hk1 hx))
      all_goals
        go_wp2
        first
          | exact bodyPost_ret (results_cc rfl _ _ w.heap.size g3 29 46 #[.slice A2 l.length cap2] #[.int .i64 x.f0, .int .i64 x.f1, .bool x.f2, .int .i64 x.f3, .int .i64 x.f4, .int .i64 x.f5, .int .i64 x.f6, .int .i64 x.f7, .int .i64 x.f8, .string x.f9] (0, 0) (0, 0) _ _ rfl (put_blk (blk_put (cs' := #[.slice A2 l.length cap2]) P7.out 0 _ rfl) n4) hu29 rfl (by kernel_rfl) rfl (put_box (blk_far (p := ⟨w.heap.size, 0, none⟩) B7.out n5 _)) hu46 rfl (by kernel_rfl)) rfl ⟨⟨A2, cap2, l, x, rfl, HCL.out, (put_row (RL7.out.far (by omega) _) (by omega)).lower (by omega), HLL.out, HLO.out, OX.out⟩, put_below (below_set C7.out.bel (Nat.le_refl _)) n6⟩
          | exact bodyPost_ret (results_cc rfl _ _ w.heap.size g3 29 46 #[.slice A2 l.length cap2] #[.int .i64 x.f0, .int .i64 x.f1, .bool x.f2, .int .i64 x.f3, .int .i64 x.f4, .int .i64 x.f5, .int .i64 x.f6, .int .i64 x.f7, .int .i64 x.f8, .string x.f9] (0, 0) (0, 0) _ _ rfl (blk_put (cs' := #[.slice A2 l.length cap2]) (put_blk P7.out n4) 0 _ rfl) hu29 rfl (by kernel_rfl) rfl (blk_far (p := ⟨w.heap.size, 0, none⟩) (put_box B7.out) n5 _) hu46 rfl (by kernel_rfl)) rfl ⟨⟨A2, cap2, l, x, rfl, HCL.out, ((put_row RL7.out (by omega)).far (by omega) _).lower (by omega), HLL.out, HLO.out, OX.out⟩, below_set (put_below C7.out.bel n6) (Nat.le_refl _)⟩
end Go.Proofs.Ytlkbbolkadkedaa.QFnCovers
