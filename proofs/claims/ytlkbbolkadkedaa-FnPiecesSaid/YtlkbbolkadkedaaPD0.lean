import Derived.Test.YtlkbbolkadkedaaPD2
namespace Go.Proofs.Ytlkbbolkadkedaa.QFnPieces
open Go.RowKit Go.Proofs.YtlkbbolkadkedaaW.PrintWords Go.Proofs.YtlkbbolkadkedaaW.PrintLast Go.Proofs.YtlkbbolkadkedaaW.PrintMore
attribute [local go_sem] max2_int min2_int max_two min_two max_three min_three max_four min_four
set_option linter.unusedVariables false
set_option linter.unusedSimpArgs false
def Row (b : Nat) (w : World) (v : Value) (l : List S46) : Prop := Kd.R k46 46 w b (fun _ => True) v l
theorem Row.keep {b g : Nat} {w w1 : World} {v : Value} {l : List S46} (h : Row b w v l) (hk : KeepBut w w1 g none) (hg : g < b) : Row b w1 v l := Kd.R_mono (Kd.R_keep (Kd.R_bound h) hk (fun k hk => by have := hk.2.1; omega)) (fun _ _ => trivial)
theorem Row.below {b : Nat} {w w1 : World} {v : Value} {l : List S46} (h : Row b w v l) (hb : Below w.heap.size w w1) : Row b w1 v l := Kd.R_below h hb
theorem Row.lower {b b1 : Nat} {w : World} {v : Value} {l : List S46} (h : Row b w v l) (hb : b1 ≤ b) : Row b1 w v l := Kd.R_lower h hb
theorem Row.far {b g j : Nat} {w : World} {v : Value} {l : List S46} (h : Row b w v l) (hg : g < b) (u : Value) : Row b (w.setCell ⟨g, j, none⟩ u) v l := Kd.R_mono (Kd.R_far (p := ⟨g, j, none⟩) (Kd.R_bound h) (fun k hk => by have := hk.2.1; show k ≠ g; omega) u) (fun _ _ => trivial)
theorem Row.alloc {b : Nat} {w : World} {v : Value} {l : List S46} (h : Row b w v l) (o : Obj) : Row b (w.alloc o) v l := Row.below h (below_alloc (Below.refl _ _) o)
theorem Row.C {b : Nat} {w : World} {A : Option Addr} {cap : Nat} {l : List S46} (h : Row b w (.slice A l.length cap) l) : Kd.C k46 w A l.length l := (Kd.R_reads' h).2.2
theorem rd_mem (l : List S46) (i : Int) (h0 : 0 ≤ i) (h1 : i < (l.length : Int)) : rd_T46 l i ∈ l := by
  have h : i.toNat < l.length := by omega
  have e : rd_T46 l i = l[i.toNat] := by simp [rd_T46, List.getD_eq_getElem?_getD, h]
  rw [e]
  exact List.getElem_mem h
theorem Row.keepUp {b g : Nat} {w wL w1 : World} {v : Value} {l : List S46} (h : Row b w v l) (ha : Below w.heap.size w wL) (hk : KeepBut wL w1 g none) (hg : w.heap.size ≤ g) : Row b w1 v l := Kd.R_step h (fun k _ hlt => (hk.2 k (Nat.lt_of_lt_of_le hlt ha.size) (by omega) (by simp)).trans (ha.block k hlt))
theorem C_u8_lt {w : World} {A : Option Addr} {c : List Int} (h : Kd.C (Kd.int .u8) w A c.length c) : ∀ ad, A = some ad → 0 < c.length → ad.block < w.heap.size := by
  intro ad e hl
  obtain ⟨ad', e', hx⟩ := Kd.at_int h 0 (Int.le_refl 0) (by omega)
  rw [e] at e'
  cases e'
  have := World.block_lt_of_cell? w _ hx
  rwa [add_block] at this
theorem C_u8_keep {w wL w1 : World} {g : Nat} {A : Option Addr} {c : List Int} (h : Kd.C (Kd.int .u8) w A c.length c) (ha : Below w.heap.size w wL) (hk : KeepBut wL w1 g none) (hg : w.heap.size ≤ g) : Kd.C (Kd.int .u8) w1 A c.length c :=
  Kd.C_keep (0 : Int) (Kd.C_below h ha) hk (fun ad e hl => by have := C_u8_lt h ad e hl; omega)
def PBox (w : World) (g : Nat) (A : Option Addr) (n cap : Nat) : Prop := w.heap[g]? = some (Obj.cells #[.slice A n cap] 29 (0, 0))
theorem PBox.keep {w w1 : World} {g gk n cap : Nat} {A : Option Addr} (h : PBox w g A n cap) (hk : KeepBut w w1 gk none) (hne : g ≠ gk) : PBox w1 g A n cap := keep_box hk h hne
theorem PBox.below {w w1 : World} {g n cap : Nat} {A : Option Addr} (h : PBox w g A n cap) (hb : Below w.heap.size w w1) : PBox w1 g A n cap := blk_below h hb
theorem Box.below {w w1 : World} {g : Nat} {x : S46} (h : Box w g x) (hb : Below w.heap.size w w1) : Box w1 g x := blk_below h hb
theorem Row.nil (b : Nat) (w : World) : Row b w (.slice none 0 0) [] := Kd.R_nil _ _ _ _ _
theorem rd_mem_int (l : List Int) (i : Int) (h0 : 0 ≤ i) (h1 : i < (l.length : Int)) : rd l i ∈ l := by
  have h : i.toNat < l.length := by omega
  have e : rd l i = l[i.toNat] := by simp [rd, rdOf, List.getD_eq_getElem?_getD, h]
  rw [e]
  exact List.getElem_mem h
theorem wrap_i64_id {n : Int} (h0 : -9223372036854775808 ≤ n) (h1 : n ≤ 9223372036854775807) : IntKind.i64.wrap n = n := by rw [IntKind.wrap_i64]; omega
theorem bcell {W w1 : World} (hb : Below W.heap.size W w1) : (∀ b o, b < W.heap.size → w1.cell? ⟨b, o, none⟩ = W.cell? ⟨b, o, none⟩) ∧ (∀ b o, b < W.heap.size → w1.frozen? ⟨b, o, none⟩ = W.frozen? ⟨b, o, none⟩) :=
  ⟨fun b o h => hb.cell (p := ⟨b, o, none⟩) h, fun b o h => hb.frozen (p := ⟨b, o, none⟩) h⟩
theorem below_cells {W W' : World} {a : Addr} {v : Value} (h : W.cell? a = some v) (hb : Below W.heap.size W W') : W'.cell? a = some v := (hb.cell (World.block_lt_of_cell? W _ h)).trans h
theorem held11 {w W : World} {g : Nat} {a : Addr} {u0 u1 u2 u3 u4 u5 u6 u7 u8 u9 ua : Value} (h : w.cell? ⟨g, 0, none⟩ = some u0 ∧ w.cell? ⟨g, 1, none⟩ = some u1 ∧ w.cell? ⟨g, 2, none⟩ = some u2 ∧ w.cell? ⟨g, 3, none⟩ = some u3 ∧ w.cell? ⟨g, 4, none⟩ = some u4 ∧ w.cell? ⟨g, 5, none⟩ = some u5 ∧ w.cell? ⟨g, 6, none⟩ = some u6 ∧ w.cell? ⟨g, 7, none⟩ = some u7 ∧ w.cell? ⟨g, 8, none⟩ = some u8 ∧ w.cell? ⟨g, 9, none⟩ = some u9 ∧ w.cell? a = some ua) (hb : Below w.heap.size w W) :
    W.cell? ⟨g, 0, none⟩ = some u0 ∧ W.cell? ⟨g, 1, none⟩ = some u1 ∧ W.cell? ⟨g, 2, none⟩ = some u2 ∧ W.cell? ⟨g, 3, none⟩ = some u3 ∧ W.cell? ⟨g, 4, none⟩ = some u4 ∧ W.cell? ⟨g, 5, none⟩ = some u5 ∧ W.cell? ⟨g, 6, none⟩ = some u6 ∧ W.cell? ⟨g, 7, none⟩ = some u7 ∧ W.cell? ⟨g, 8, none⟩ = some u8 ∧ W.cell? ⟨g, 9, none⟩ = some u9 ∧ W.cell? a = some ua := by
  obtain ⟨h0, h1, h2, h3, h4, h5, h6, h7, h8, h9, ha⟩ := h
  exact ⟨below_cells h0 hb, below_cells h1 hb, below_cells h2 hb, below_cells h3 hb, below_cells h4 hb, below_cells h5 hb, below_cells h6 hb, below_cells h7 hb, below_cells h8 hb, below_cells h9 hb, below_cells ha hb⟩
end Go.Proofs.Ytlkbbolkadkedaa.QFnPieces
