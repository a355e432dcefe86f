import Derived.Test.YtlkbbolkadkedaaCD3
namespace Go.Proofs.Ytlkbbolkadkedaa.QFnCovers
open Go.RowKit Go.Proofs.YtlkbbolkadkedaaW.PrintWords Go.Proofs.YtlkbbolkadkedaaW.PrintLast Go.Proofs.YtlkbbolkadkedaaW.PrintMore
attribute [local go_sem] max2_int min2_int max_two min_two max_three min_three max_four min_four
set_option linter.unusedVariables false
set_option linter.unusedSimpArgs false
theorem Cur.start {w w1 w2 : World} {A : Option Addr} {cap : Nat} {c : List Int} (hC : Kd.C (Kd.int .u8) w A c.length c) (hc : ∀ x ∈ c, 0 ≤ x ∧ x ≤ 255) (h1 : Below w.heap.size w w1) {g : Nat} (hg : g = w1.heap.size) (hb : w2.heap[g]? = some (Obj.cells #[.slice A c.length cap, .int .i64 0, .int .u64 0] 83 (0, 0))) (h2 : Below w1.heap.size w1 w2) : Cur w w2 g c 0 :=
  ⟨A, cap, 0, 0, hb, by rw [hg]; exact h1.size, hC, below_step h1 h2, Int.le_refl 0, Int.le_refl 0, hc⟩
theorem Cur.bel {w0 w : World} {g : Nat} {c : List Int} {p : Int} (h : Cur w0 w g c p) : Below w0.heap.size w0 w := by
  obtain ⟨_, _, _, _, _, _, _, hB, _⟩ := h
  exact hB
theorem put_row {w : World} {b gb : Nat} {v : Value} {l : List S46} {u0 u1 u2 u3 u4 u5 u6 u7 u8 u9 : Value} (h : Row b w v l) (hg : gb < b) : Row b ((((((((((w.setCell ⟨gb, 0, none⟩ u0).setCell ⟨gb, 1, none⟩ u1).setCell ⟨gb, 2, none⟩ u2).setCell ⟨gb, 3, none⟩ u3).setCell ⟨gb, 4, none⟩ u4).setCell ⟨gb, 5, none⟩ u5).setCell ⟨gb, 6, none⟩ u6).setCell ⟨gb, 7, none⟩ u7).setCell ⟨gb, 8, none⟩ u8).setCell ⟨gb, 9, none⟩ u9) v l := Row.far (j := 9) (Row.far (j := 8) (Row.far (j := 7) (Row.far (j := 6) (Row.far (j := 5) (Row.far (j := 4) (Row.far (j := 3) (Row.far (j := 2) (Row.far (j := 1) (Row.far (j := 0) h hg u0) hg u1) hg u2) hg u3) hg u4) hg u5) hg u6) hg u7) hg u8) hg u9
theorem put_below {w0 w : World} {gb : Nat} {u0 u1 u2 u3 u4 u5 u6 u7 u8 u9 : Value} (h : Below w0.heap.size w0 w) (hg : w0.heap.size ≤ gb) : Below w0.heap.size w0 ((((((((((w.setCell ⟨gb, 0, none⟩ u0).setCell ⟨gb, 1, none⟩ u1).setCell ⟨gb, 2, none⟩ u2).setCell ⟨gb, 3, none⟩ u3).setCell ⟨gb, 4, none⟩ u4).setCell ⟨gb, 5, none⟩ u5).setCell ⟨gb, 6, none⟩ u6).setCell ⟨gb, 7, none⟩ u7).setCell ⟨gb, 8, none⟩ u8).setCell ⟨gb, 9, none⟩ u9) := below_set (j := 9) (v := u9) (below_set (j := 8) (v := u8) (below_set (j := 7) (v := u7) (below_set (j := 6) (v := u6) (below_set (j := 5) (v := u5) (below_set (j := 4) (v := u4) (below_set (j := 3) (v := u3) (below_set (j := 2) (v := u2) (below_set (j := 1) (v := u1) (below_set (j := 0) (v := u0) h hg) hg) hg) hg) hg) hg) hg) hg) hg) hg
theorem put_blk {w : World} {r gb t : Nat} {cs : Array Value} {u0 u1 u2 u3 u4 u5 u6 u7 u8 u9 : Value} (h : w.heap[r]? = some (.cells cs t (0, 0))) (hne : r ≠ gb) : ((((((((((w.setCell ⟨gb, 0, none⟩ u0).setCell ⟨gb, 1, none⟩ u1).setCell ⟨gb, 2, none⟩ u2).setCell ⟨gb, 3, none⟩ u3).setCell ⟨gb, 4, none⟩ u4).setCell ⟨gb, 5, none⟩ u5).setCell ⟨gb, 6, none⟩ u6).setCell ⟨gb, 7, none⟩ u7).setCell ⟨gb, 8, none⟩ u8).setCell ⟨gb, 9, none⟩ u9).heap[r]? = some (.cells cs t (0, 0)) := blk_far (p := ⟨gb, 9, none⟩) (blk_far (p := ⟨gb, 8, none⟩) (blk_far (p := ⟨gb, 7, none⟩) (blk_far (p := ⟨gb, 6, none⟩) (blk_far (p := ⟨gb, 5, none⟩) (blk_far (p := ⟨gb, 4, none⟩) (blk_far (p := ⟨gb, 3, none⟩) (blk_far (p := ⟨gb, 2, none⟩) (blk_far (p := ⟨gb, 1, none⟩) (blk_far (p := ⟨gb, 0, none⟩) h hne u0) hne u1) hne u2) hne u3) hne u4) hne u5) hne u6) hne u7) hne u8) hne u9
theorem keep_grown {w W w1 : World} {g : Nat} {row : Option Nat} (h : KeepBut w W g none) (hg : W.grownBy w1 row) (hr : ∀ k, row = some k → w.heap.size ≤ k) (hs : W.heap.size ≤ w1.heap.size) : KeepBut w w1 g none :=
  ⟨Nat.le_trans h.1 hs, fun i hi hne _ => (hg.block i (Nat.lt_of_lt_of_le hi h.1) (fun e => by have := hr i e.symm; omega)).trans (h.2 i hi hne (by simp))⟩
theorem Cur.belowB {w0 w w1 : World} {g b : Nat} {c : List Int} {p : Int} (h : Cur w0 w g c p) (hb : Below b w w1) (hg : g < b) (h0 : w0.heap.size ≤ b) : Cur w0 w1 g c p := by
  obtain ⟨A, cap, a, s, hg', hge, hC, hB, a0, a1, hc⟩ := h
  exact ⟨A, cap, a, s, (hb.block g hg).trans hg', hge, hC, hB.trans (hb.mono h0), a0, a1, hc⟩
theorem blk_belowB {w w1 : World} {g b : Nat} {o : Obj} (h : w.heap[g]? = some o) (hb : Below b w w1) (hg : g < b) : w1.heap[g]? = some o := (hb.block g hg).trans h
theorem row_form {b : Nat} {W : World} {A : Option Addr} {cap : Nat} {l : List S46} (h : Row b W (.slice A l.length cap) l) (hl : 0 < l.length) : ∃ g, A = some ⟨g, 0, none⟩ ∧ b ≤ g := by
  obtain ⟨go, co, eo, gb, gl, cl, HG⟩ := Kd.R_form h hl
  cases eo
  exact ⟨go, rfl, gb⟩
theorem row_f7 {b : Nat} {W : World} {g cap : Nat} {l : List S46} (h : Row b W (.slice (some ⟨g, 0, none⟩) l.length cap) l) (i : Int) (h0 : 0 ≤ i) (h1 : i < (l.length : Int)) : W.cell? ⟨g, i.toNat * 10 + 7, none⟩ = some (.int .i64 (rd_T46 l i).f7) ∧ W.frozen? ⟨g, i.toNat * 10 + 7, none⟩ = false ∧
    ∀ v : Int, Row b (W.setCell ⟨g, i.toNat * 10 + 7, none⟩ (.int .i64 v)) (.slice (some ⟨g, 0, none⟩) l.length cap) (l.set i.toNat ⟨(rd_T46 l i).f0, (rd_T46 l i).f1, (rd_T46 l i).f2, (rd_T46 l i).f3, (rd_T46 l i).f4, (rd_T46 l i).f5, (rd_T46 l i).f6, v, (rd_T46 l i).f8, (rd_T46 l i).f9⟩) := by
  obtain ⟨cs, hcl, hM, hcc, hfr⟩ := Kd.R_elem h z46 i h0 h1
  obtain rfl := k46_openM hM
  refine ⟨hcc 7 _ rfl, hfr 7, fun v => ?_⟩
  exact (Kd.R_seg h i h0 h1 (seg := [.int .i64 v]) (j := 7) hcl hcc (show 8 ≤ 10 by decide) (x' := (⟨(rd_T46 l i).f0, (rd_T46 l i).f1, (rd_T46 l i).f2, (rd_T46 l i).f3, (rd_T46 l i).f4, (rd_T46 l i).f5, (rd_T46 l i).f6, v, (rd_T46 l i).f8, (rd_T46 l i).f9⟩ : S46)) (k46_mkM W b (fun k => True ∧ k ≠ g) _) (fun _ hk => hk)).1
theorem row_f4 {b : Nat} {W : World} {g cap : Nat} {l : List S46} (h : Row b W (.slice (some ⟨g, 0, none⟩) l.length cap) l) (i : Int) (h0 : 0 ≤ i) (h1 : i < (l.length : Int)) : W.cell? ⟨g, i.toNat * 10 + 4, none⟩ = some (.int .i64 (rd_T46 l i).f4) ∧ W.frozen? ⟨g, i.toNat * 10 + 4, none⟩ = false ∧
    ∀ v : Int, Row b (W.setCell ⟨g, i.toNat * 10 + 4, none⟩ (.int .i64 v)) (.slice (some ⟨g, 0, none⟩) l.length cap) (l.set i.toNat ⟨(rd_T46 l i).f0, (rd_T46 l i).f1, (rd_T46 l i).f2, (rd_T46 l i).f3, v, (rd_T46 l i).f5, (rd_T46 l i).f6, (rd_T46 l i).f7, (rd_T46 l i).f8, (rd_T46 l i).f9⟩) := by
  obtain ⟨cs, hcl, hM, hcc, hfr⟩ := Kd.R_elem h z46 i h0 h1
  obtain rfl := k46_openM hM
  refine ⟨hcc 4 _ rfl, hfr 4, fun v => ?_⟩
  exact (Kd.R_seg h i h0 h1 (seg := [.int .i64 v]) (j := 4) hcl hcc (show 5 ≤ 10 by decide) (x' := (⟨(rd_T46 l i).f0, (rd_T46 l i).f1, (rd_T46 l i).f2, (rd_T46 l i).f3, v, (rd_T46 l i).f5, (rd_T46 l i).f6, (rd_T46 l i).f7, (rd_T46 l i).f8, (rd_T46 l i).f9⟩ : S46)) (k46_mkM W b (fun k => True ∧ k ≠ g) _) (fun _ hk => hk)).1
theorem row_f9 {b : Nat} {W : World} {g cap : Nat} {l : List S46} (h : Row b W (.slice (some ⟨g, 0, none⟩) l.length cap) l) (i : Int) (h0 : 0 ≤ i) (h1 : i < (l.length : Int)) : W.cell? ⟨g, i.toNat * 10 + 9, none⟩ = some (.string (rd_T46 l i).f9) ∧ W.frozen? ⟨g, i.toNat * 10 + 9, none⟩ = false ∧
    ∀ v : ByteArray, Row b (W.setCell ⟨g, i.toNat * 10 + 9, none⟩ (.string v)) (.slice (some ⟨g, 0, none⟩) l.length cap) (l.set i.toNat ⟨(rd_T46 l i).f0, (rd_T46 l i).f1, (rd_T46 l i).f2, (rd_T46 l i).f3, (rd_T46 l i).f4, (rd_T46 l i).f5, (rd_T46 l i).f6, (rd_T46 l i).f7, (rd_T46 l i).f8, v⟩) := by
  obtain ⟨cs, hcl, hM, hcc, hfr⟩ := Kd.R_elem h z46 i h0 h1
  obtain rfl := k46_openM hM
  refine ⟨hcc 9 _ rfl, hfr 9, fun v => ?_⟩
  exact (Kd.R_seg h i h0 h1 (seg := [.string v]) (j := 9) hcl hcc (show 10 ≤ 10 by decide) (x' := (⟨(rd_T46 l i).f0, (rd_T46 l i).f1, (rd_T46 l i).f2, (rd_T46 l i).f3, (rd_T46 l i).f4, (rd_T46 l i).f5, (rd_T46 l i).f6, (rd_T46 l i).f7, (rd_T46 l i).f8, v⟩ : S46)) (k46_mkM W b (fun k => True ∧ k ≠ g) _) (fun _ hk => hk)).1
theorem ok8_set {l : List S46} (h : ∀ y ∈ l, Ok8 y) (i : Int) (h0 : 0 ≤ i) (h1 : i < (l.length : Int)) {x : S46} (hx : x.f8 = (rd_T46 l i).f8) : ∀ y ∈ l.set i.toNat x, Ok8 y := by
  intro y hy
  rcases List.mem_or_eq_of_mem_set hy with h2 | h2
  · exact h y h2
  · subst h2
    have := h _ (rd_mem l i h0 h1)
    unfold Ok8 at this ⊢
    rw [hx]
    exact this
def RowU (b u : Nat) (w : World) (v : Value) (l : List S46) : Prop := Kd.R k46 46 w b (fun k => k < u) v l
theorem RowU.below {b u : Nat} {w w1 : World} {v : Value} {l : List S46} (h : RowU b u w v l) (hb : Below w.heap.size w w1) : RowU b u w1 v l := Kd.R_below h hb
theorem RowU.keep {b u g : Nat} {w w1 : World} {v : Value} {l : List S46} (h : RowU b u w v l) (hk : KeepBut w w1 g none) (hg : g < b) : RowU b u w1 v l := Kd.R_mono (Kd.R_keep (Kd.R_bound h) hk (fun k hk => by have := hk.2.1; omega)) (fun _ hk => hk.1)
theorem RowU.far {b u g j : Nat} {w : World} {v : Value} {l : List S46} (h : RowU b u w v l) (hg : u ≤ g) (x : Value) : RowU b u (w.setCell ⟨g, j, none⟩ x) v l := Kd.R_far (p := ⟨g, j, none⟩) h (fun k hk => by show k ≠ g; omega) x
theorem RowU.farL {b u g j : Nat} {w : World} {v : Value} {l : List S46} (h : RowU b u w v l) (hg : g < b) (x : Value) : RowU b u (w.setCell ⟨g, j, none⟩ x) v l := Kd.R_mono (Kd.R_far (p := ⟨g, j, none⟩) (Kd.R_bound h) (fun k hk => by have := hk.2.1; show k ≠ g; omega) x) (fun _ hk => hk.1)
theorem RowU.row {b u : Nat} {w : World} {v : Value} {l : List S46} (h : RowU b u w v l) : Row b w v l := Kd.R_mono h (fun _ _ => trivial)
theorem RowU.C {b u : Nat} {w : World} {A : Option Addr} {cap : Nat} {l : List S46} (h : RowU b u w (.slice A l.length cap) l) : Kd.C k46 w A l.length l := (Kd.R_reads' h).2.2
theorem pile_rel {w0 w W : World} {g g10 gb gr cap c5 : Nat} {c : List Int} {p : Int} {A A5 : Option Addr} {pl all : List S46} (h : ∃ l2 : List S46, l2.length = pl.length ∧ (∀ y ∈ l2, Ok8 y) ∧ Row (g10 + 1) W (.slice A l2.length cap) l2) (hB : PBox W g10 A pl.length cap) (hA : RowU (gb + 1) g10 W (.slice A5 all.length c5) all) (hR : PBox W gr none 0 0) (hC : Cur w0 W g c p) (hK : KeepBut w W g none) : ∃ (pl2 : List S46) (A9 : Option Addr), Aside0 (pl2.length = pl.length) ∧ Aside0 (∀ y ∈ pl2, Ok8 y) ∧ Aside0 (PBox W g10 A9 pl2.length cap) ∧ Aside0 (Row (g10 + 1) W (.slice A9 pl2.length cap) pl2) ∧ Aside0 (RowU (gb + 1) g10 W (.slice A5 all.length c5) all) ∧ Aside0 (PBox W gr none 0 0) ∧ Aside0 (Cur w0 W g c p) ∧ Aside0 (KeepBut w W g none) := by
  obtain ⟨l2, e1, e2, e3⟩ := h
  exact ⟨l2, A, ⟨e1⟩, ⟨e2⟩, ⟨by rw [e1]; exact hB⟩, ⟨e3⟩, ⟨hA⟩, ⟨hR⟩, ⟨hC⟩, ⟨hK⟩⟩
theorem row_s7 {b : Nat} {W : World} {g cap : Nat} {l : List S46} (h : Row b W (.slice (some ⟨g, 0, none⟩) l.length cap) l) (ho : ∀ y ∈ l, Ok8 y) (i : Int) (h0 : 0 ≤ i) (h1 : i < (l.length : Int)) (v : Int) : ∃ l2 : List S46, l2.length = l.length ∧ (∀ y ∈ l2, Ok8 y) ∧ Row b (W.setCell ⟨g, i.toNat * 10 + 7, none⟩ (.int .i64 v)) (.slice (some ⟨g, 0, none⟩) l2.length cap) l2 :=
  ⟨l.set i.toNat ⟨(rd_T46 l i).f0, (rd_T46 l i).f1, (rd_T46 l i).f2, (rd_T46 l i).f3, (rd_T46 l i).f4, (rd_T46 l i).f5, (rd_T46 l i).f6, v, (rd_T46 l i).f8, (rd_T46 l i).f9⟩, List.length_set, ok8_set ho i h0 h1 rfl, by rw [List.length_set]; exact (row_f7 h i h0 h1).2.2 v⟩
theorem row_s4 {b : Nat} {W : World} {g cap : Nat} {l : List S46} (h : Row b W (.slice (some ⟨g, 0, none⟩) l.length cap) l) (ho : ∀ y ∈ l, Ok8 y) (i : Int) (h0 : 0 ≤ i) (h1 : i < (l.length : Int)) (v : Int) : ∃ l2 : List S46, l2.length = l.length ∧ (∀ y ∈ l2, Ok8 y) ∧ Row b (W.setCell ⟨g, i.toNat * 10 + 4, none⟩ (.int .i64 v)) (.slice (some ⟨g, 0, none⟩) l2.length cap) l2 :=
  ⟨l.set i.toNat ⟨(rd_T46 l i).f0, (rd_T46 l i).f1, (rd_T46 l i).f2, (rd_T46 l i).f3, v, (rd_T46 l i).f5, (rd_T46 l i).f6, (rd_T46 l i).f7, (rd_T46 l i).f8, (rd_T46 l i).f9⟩, List.length_set, ok8_set ho i h0 h1 rfl, by rw [List.length_set]; exact (row_f4 h i h0 h1).2.2 v⟩
theorem row_s9 {b : Nat} {W : World} {g cap : Nat} {l : List S46} (h : Row b W (.slice (some ⟨g, 0, none⟩) l.length cap) l) (ho : ∀ y ∈ l, Ok8 y) (i : Int) (h0 : 0 ≤ i) (h1 : i < (l.length : Int)) (v : ByteArray) : ∃ l2 : List S46, l2.length = l.length ∧ (∀ y ∈ l2, Ok8 y) ∧ Row b (W.setCell ⟨g, i.toNat * 10 + 9, none⟩ (.string v)) (.slice (some ⟨g, 0, none⟩) l2.length cap) l2 :=
  ⟨l.set i.toNat ⟨(rd_T46 l i).f0, (rd_T46 l i).f1, (rd_T46 l i).f2, (rd_T46 l i).f3, (rd_T46 l i).f4, (rd_T46 l i).f5, (rd_T46 l i).f6, (rd_T46 l i).f7, (rd_T46 l i).f8, v⟩, List.length_set, ok8_set ho i h0 h1 rfl, by rw [List.length_set]; exact (row_f9 h i h0 h1).2.2 v⟩
end Go.Proofs.Ytlkbbolkadkedaa.QFnCovers
