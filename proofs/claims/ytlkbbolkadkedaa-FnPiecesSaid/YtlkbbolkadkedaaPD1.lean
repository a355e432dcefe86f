import Derived.Test.YtlkbbolkadkedaaQFnPiecesx0
namespace Go.Proofs.Ytlkbbolkadkedaa.QFnPieces
open Go.RowKit Go.Proofs.YtlkbbolkadkedaaW.PrintWords Go.Proofs.YtlkbbolkadkedaaW.PrintLast Go.Proofs.YtlkbbolkadkedaaW.PrintMore
attribute [local go_sem] max2_int min2_int max_two min_two max_three min_three max_four min_four
set_option linter.unusedVariables false
set_option linter.unusedSimpArgs false
def Cur (w0 w : World) (g : Nat) (c : List Int) (p : Int) : Prop := ∃ A cap a s, w.heap[g]? = some (Obj.cells #[.slice A c.length cap, .int .i64 a, .int .u64 s] 83 (0, 0)) ∧ w0.heap.size ≤ g ∧ Kd.C (Kd.int .u8) w0 A c.length c ∧ Below w0.heap.size w0 w ∧ 0 ≤ a ∧ a ≤ p ∧ (∀ x ∈ c, 0 ≤ x ∧ x ≤ 255)
theorem wraps_u64 (n : Int) : IntKind.u64.wrap n = n % 2 ^ 64 := by simp [IntKind.wrap, IntKind.bits, IntKind.signed]
theorem low8 (n : Int) : 0 ≤ wrap64 (Go.bits .and .u64 (IntKind.u64.wrap n / 1099511627776) 255) ∧ wrap64 (Go.bits .and .u64 (IntKind.u64.wrap n / 1099511627776) 255) ≤ 255 := by
  have h0 : 0 ≤ IntKind.u64.wrap n ∧ IntKind.u64.wrap n < 2 ^ 64 := by rw [wraps_u64]; omega
  generalize IntKind.u64.wrap n = x at h0 ⊢
  have := bits_mask .u64 64 (by decide) (fun n g0 g1 => by rw [wraps_u64]; exact Int.emod_eq_of_lt g0 g1) 8 (by omega) (x / 1099511627776) (by omega) (by omega)
  have e : Go.bits .and .u64 (x / 1099511627776) 255 = (x / 1099511627776) % 256 := by simpa using this
  rw [e]
  unfold wrap64
  omega
set_option maxHeartbeats 8000000 in
set_option maxRecDepth 100000 in
theorem next_run (w0 w : World) (g : Nat) (c : List Int) (p : Int) (h : Cur w0 w g c p) (hp : p ≤ 4611686018427387904) : Calls Try.prog 77 #[.pointer (some ⟨g, 0, none⟩)] w fun e w' => (∃ v, e = .returned (.int .i64 v) ∧ 0 ≤ v ∧ v ≤ 255) ∧ Cur w0 w' g c (p + 1) ∧ KeepBut w w' g none := by
  obtain ⟨A, cap, a, s, hg, hge, hC, hB, a0, a1, hc⟩ := h
  have hz0 : w.cell? ⟨g, 0, none⟩ = some (.slice A c.length cap) := (blk_cell hg 0).trans rfl
  have hz1 : w.cell? ⟨g, 1, none⟩ = some (.int .i64 a) := (blk_cell hg 1).trans rfl
  have hz2 : w.cell? ⟨g, 2, none⟩ = some (.int .u64 s) := (blk_cell hg 2).trans rfl
  have hf1 := blk_frozen hg 1
  have hf2 := blk_frozen hg 2
  have HG := Aside0.mk hg
  have HB := Aside0.mk hB
  have HGE := Aside0.mk hge
  clear hg hB hge
  go_enter Try.func77, Try.ntmps77
  by_cases ha : a < (c.length : Int)
  · have b0 : decide (a < (c.length : Int)) = true := decide_eq_true ha
    obtain ⟨ad, e, hx⟩ := Kd.at_int hC a a0 ha
    cases e
    replace hx := pw_cell_below HB.out hx
    go_wp2
    repeat (go_quiet (fail); try go_wp2)
    go_ret
    refine ⟨⟨_, rfl, ?val⟩, ⟨(some ad), cap, a + 1, _, (by
      repeat (with_reducible first | refine blk_drewN ?_ _ | refine blk_drew ?_)
      refine blk_put (cs := #[.slice (some ad) c.length cap, .int .i64 (a + 1), .int .u64 s]) ?_ 2 _ rfl
      repeat (with_reducible first | refine blk_drewN ?_ _ | refine blk_drew ?_)
      refine blk_put (cs := #[.slice (some ad) c.length cap, .int .i64 a, .int .u64 s]) ?_ 1 _ rfl
      repeat (with_reducible first | refine blk_drewN ?_ _ | refine blk_drew ?_)
      exact HG.out), HGE.out, hC, ?below, by omega, by omega, hc⟩, ?keep⟩
    case val =>
      have hr : 0 ≤ rd c a ∧ rd c a ≤ 255 := by
        have : a.toNat < c.length := by omega
        have e : rd c a = c[a.toNat] := by simp [rd, rdOf, List.getD_eq_getElem?_getD, this]
        rw [e]
        exact hc _ (List.getElem_mem this)
      unfold wrap64
      omega
    case below =>
      repeat (with_reducible first | exact HB.out | apply pw_below_drewN | apply below_drew1 | refine below_set ?_ HGE.out)
    case keep =>
      repeat (with_reducible first | exact KeepBut.refl w g none | apply KeepBut.set_ | apply keep_drewN | apply keep_drew)
  · have b0 : decide (a < (c.length : Int)) = false := decide_eq_false ha
    go_wp2
    repeat (go_quiet (fail); try go_wp2)
    go_ret
    refine ⟨⟨_, rfl, ?val⟩, ⟨A, cap, a + 1, _, (by
      repeat (with_reducible first | refine blk_drewN ?_ _ | refine blk_drew ?_)
      refine blk_put (cs := #[.slice A c.length cap, .int .i64 (a + 1), .int .u64 s]) ?_ 2 _ rfl
      repeat (with_reducible first | refine blk_drewN ?_ _ | refine blk_drew ?_)
      refine blk_put (cs := #[.slice A c.length cap, .int .i64 a, .int .u64 s]) ?_ 1 _ rfl
      repeat (with_reducible first | refine blk_drewN ?_ _ | refine blk_drew ?_)
      exact HG.out), HGE.out, hC, ?below, by omega, by omega, hc⟩, ?keep⟩
    case val =>
      exact low8 _
    case below =>
      repeat (with_reducible first | exact HB.out | apply pw_below_drewN | apply below_drew1 | refine below_set ?_ HGE.out)
    case keep =>
      repeat (with_reducible first | exact KeepBut.refl w g none | apply KeepBut.set_ | apply keep_drewN | apply keep_drew)
theorem Cur.mono {w0 w : World} {g : Nat} {c : List Int} {p q : Int} (h : Cur w0 w g c p) (hq : p ≤ q) : Cur w0 w g c q := by
  obtain ⟨A, cap, a, s, hg, hge, hC, hB, a0, a1, hc⟩ := h
  exact ⟨A, cap, a, s, hg, hge, hC, hB, a0, by omega, hc⟩
theorem keep_then {w w1 w2 : World} {g : Nat} (h : KeepBut w w1 g none) (k : KeepBut w1 w2 g none) : KeepBut w w2 g none := h.trans k (.inl rfl)
set_option maxHeartbeats 8000000 in
set_option maxRecDepth 100000 in
theorem pick_run (w0 w : World) (g : Nat) (c : List Int) (p n : Int) (h : Cur w0 w g c p) (hp : p ≤ 2305843009213693952) (hn : n ≤ 1000000) : Calls Try.prog 67 #[.pointer (some ⟨g, 0, none⟩), .int .i64 n] w fun e w' => (∃ v, e = .returned (.int .i64 v) ∧ 0 ≤ v ∧ (v < n ∨ n ≤ 1 ∧ v = 0)) ∧ Cur w0 w' g c (p + 2) ∧ KeepBut w w' g none := by
  go_enter Try.func67, Try.ntmps67
  by_cases h1 : n ≤ 1
  · have b1 : decide (n ≤ 1) = true := decide_eq_true h1
    go_wp2
    go_ret
    exact ⟨⟨0, rfl, by omega, .inr ⟨h1, rfl⟩⟩, h.mono (by omega), KeepBut.refl _ _ _⟩
  · have b1 : decide (n ≤ 1) = false := decide_eq_false h1
    have h' := Aside0.mk h
    by_cases h2 : 200 < n
    · have b2 : decide (200 < n) = true := decide_eq_true h2
      go_wp2_with (first
        | (go_at_call 77; (with_reducible refine (next_run w0 _ g c p h'.out (by omega)).mono ?_); rintro e w1 ⟨⟨v1, rfl, v10, v11⟩, hc1, hk1⟩; have hc1 := Aside0.mk hc1; have hk1 := Aside0.mk hk1; clear h')
        | (go_at_call 77; (with_reducible refine (next_run w0 _ g c (p + 1) hc1.out (by omega)).mono ?_); rintro e w2 ⟨⟨v2, rfl, v20, v21⟩, hc2, hk2⟩; have hc2 := Aside0.mk hc2; have hk2 := Aside0.mk (keep_then hk1.out hk2); clear hc1 hk1))
      go_ret
      exact ⟨⟨_, rfl, Int.emod_nonneg _ (by omega), .inl (Int.emod_lt_of_pos _ (by omega))⟩, hc2.out.mono (by omega), hk2.out⟩
    · have b2 : decide (200 < n) = false := decide_eq_false h2
      go_wp2_with (first
        | (go_at_call 77; (with_reducible refine (next_run w0 _ g c p h'.out (by omega)).mono ?_); rintro e w1 ⟨⟨v1, rfl, v10, v11⟩, hc1, hk1⟩; have hc1 := Aside0.mk hc1; have hk1 := Aside0.mk hk1; clear h'))
      go_ret
      exact ⟨⟨_, rfl, Int.emod_nonneg _ (by omega), .inl (Int.emod_lt_of_pos _ (by omega))⟩, hc1.out.mono (by omega), hk1.out⟩
set_option maxHeartbeats 8000000 in
set_option maxRecDepth 100000 in
theorem one_run (w0 w : World) (g : Nat) (c : List Int) (p n : Int) (h : Cur w0 w g c p) (hp : p ≤ 2305843009213693952) (hn : n ≤ 1000000) : Calls Try.prog 60 #[.pointer (some ⟨g, 0, none⟩), .int .i64 n] w fun e w' => (∃ v, e = .returned (.bool v)) ∧ Cur w0 w' g c (p + 2) ∧ KeepBut w w' g none := by
  have h' := Aside0.mk h
  go_enter Try.func60, Try.ntmps60
  go_wp2_with (first
    | (go_at_call 67; (with_reducible refine (pick_run w0 _ g c p n h'.out hp hn).mono ?_); rintro e w1 ⟨⟨v1, rfl, v10, v11⟩, hc1, hk1⟩; have hc1 := Aside0.mk hc1; have hk1 := Aside0.mk hk1; clear h'))
  go_ret
  exact ⟨⟨_, rfl⟩, hc1.out, hk1.out⟩
set_option maxHeartbeats 8000000 in
set_option maxRecDepth 100000 in
theorem of_run (w0 w : World) (g : Nat) (c : List Int) (p : Int) (A : Option Addr) (cap : Nat) (l : List ByteArray) (h : Cur w0 w g c p) (hp : p ≤ 2305843009213693952) (hr : Kd.C Kd.string w A l.length l) (hne : ∀ ad, A = some ad → ad.block ≠ g) (hl : 0 < l.length) (hl2 : l.length ≤ 1000000) : Calls Try.prog 76 #[.pointer (some ⟨g, 0, none⟩), .slice A l.length cap] w fun e w' => (∃ s, e = .returned (.string s) ∧ s ∈ l) ∧ Cur w0 w' g c (p + 2) ∧ KeepBut w w' g none := by
  have h' := Aside0.mk h
  have HR := Aside0.mk hr
  clear hr
  go_enter Try.func76, Try.ntmps76
  go_wp2_with (first
    | (go_at_call 67; (with_reducible refine (pick_run w0 _ g c p (l.length : Int) h'.out hp (by omega)).mono ?_); rintro e w1 ⟨⟨v, rfl, v0, v1⟩, hc1, hk1⟩; have hc1 := Aside0.mk hc1; have hk1 := Aside0.mk hk1; clear h'; have v2 : v < (l.length : Int) := (by omega); obtain ⟨ad, e, hx⟩ := Kd.at_string HR.out v v0 v2; subst e; replace hx := keep_cell hk1.out hx (by rw [add_block]; exact hne _ rfl)))
  go_ret
  refine ⟨⟨_, rfl, ?_⟩, hc1.out, hk1.out⟩
  have hv : v.toNat < l.length := by omega
  have e : rdOf ByteArray.empty l v = l[v.toNat] := by simp [rdOf, List.getD_eq_getElem?_getD, hv]
  rw [e]
  exact List.getElem_mem hv
set_option maxHeartbeats 8000000 in
set_option maxRecDepth 100000 in
theorem among_run (w0 w : World) (g : Nat) (c : List Int) (p : Int) (A : Option Addr) (cap : Nat) (l : List Int) (h : Cur w0 w g c p) (hp : p ≤ 2305843009213693952) (hr : Kd.C (Kd.int .i64) w A l.length l) (hne : ∀ ad, A = some ad → ad.block ≠ g) (hl : 0 < l.length) (hl2 : l.length ≤ 1000000) : Calls Try.prog 62 #[.pointer (some ⟨g, 0, none⟩), .slice A l.length cap] w fun e w' => (∃ s, e = .returned (.int .i64 s) ∧ s ∈ l) ∧ Cur w0 w' g c (p + 2) ∧ KeepBut w w' g none := by
  have h' := Aside0.mk h
  have HR := Aside0.mk hr
  clear hr
  go_enter Try.func62, Try.ntmps62
  go_wp2_with (first
    | (go_at_call 67; (with_reducible refine (pick_run w0 _ g c p (l.length : Int) h'.out hp (by omega)).mono ?_); rintro e w1 ⟨⟨v, rfl, v0, v1⟩, hc1, hk1⟩; have hc1 := Aside0.mk hc1; have hk1 := Aside0.mk hk1; clear h'; have v2 : v < (l.length : Int) := (by omega); obtain ⟨ad, e, hx⟩ := Kd.at_int HR.out v v0 v2; subst e; replace hx := keep_cell hk1.out hx (by rw [add_block]; exact hne _ rfl)))
  go_ret
  refine ⟨⟨_, rfl, ?_⟩, hc1.out, hk1.out⟩
  have hv : v.toNat < l.length := by omega
  have e : rd l v = l[v.toNat] := by simp [rd, rdOf, List.getD_eq_getElem?_getD, hv]
  rw [e]
  exact List.getElem_mem hv
theorem Cur.below {w0 w w1 : World} {g : Nat} {c : List Int} {p : Int} (h : Cur w0 w g c p) (hb : Below w.heap.size w w1) : Cur w0 w1 g c p := by
  obtain ⟨A, cap, a, s, hg, hge, hC, hB, a0, a1, hc⟩ := h
  exact ⟨A, cap, a, s, blk_below hg hb, hge, hC, below_step hB hb, a0, a1, hc⟩
theorem Cur.lt {w0 w : World} {g : Nat} {c : List Int} {p : Int} (h : Cur w0 w g c p) : g < w.heap.size := by
  obtain ⟨A, cap, a, s, hg, _⟩ := h
  exact blk_lt hg
theorem Cur.ne {w0 w : World} {g gb t : Nat} {c : List Int} {p : Int} {cs : Array Value} (h : Cur w0 w g c p) (hb : w.heap[gb]? = some (Obj.cells cs t (0, 0))) (ht : t ≠ 83) : gb ≠ g := by
  obtain ⟨A, cap, a, s, hg, _⟩ := h
  exact fun e => blk_ne hb hg ht e
theorem keep_box {w w1 : World} {g gb : Nat} {o : Obj} (hk : KeepBut w w1 g none) (hb : w.heap[gb]? = some o) (hne : gb ≠ g) : w1.heap[gb]? = some o := KeepBut.blk hk (g' := gb) hb hne (by simp)
theorem C_strings {w : World} {g : Nat} (l : List ByteArray) {cs : Array Value} (hb : w.heap[g]? = some (Obj.cells cs 9 (0, 0))) (e : cs = (l.map Value.string).toArray) (hl : l.length ≤ 1000) : Kd.C Kd.string w (some ⟨g, 0, none⟩) l.length l := by
  subst e
  refine Kd.C_of_reads (d := ByteArray.empty) (h1 := fun _ => rfl) ?_
  refine ⟨rfl, by omega, fun _ => ⟨_, rfl, fun j hj => ?_⟩⟩
  have ea : (⟨g, 0, none⟩ : Addr).add j = ⟨g, j, none⟩ := by unfold Addr.add; split <;> simp_all
  rw [ea, blk_cell hb]
  simp [List.getD_eq_getElem?_getD, hj]
theorem Cur.set {w0 w : World} {g gb : Nat} {c : List Int} {p : Int} (h : Cur w0 w g c p) (hne : gb ≠ g) (hge : w0.heap.size ≤ gb) (j : Nat) (u : Value) : Cur w0 (w.setCell ⟨gb, j, none⟩ u) g c p := by
  obtain ⟨A, cap, a, s, hg, hge', hC, hB, a0, a1, hc⟩ := h
  exact ⟨A, cap, a, s, blk_far hg (Ne.symm hne) u, hge', hC, below_set hB hge, a0, a1, hc⟩
def Ok8 (x : S46) : Prop := 0 ≤ x.f8 ∧ x.f8 ≤ 100
def nob : S46 := ⟨0, 0, false, 0, 0, 0, 0, 0, 0, ⟨#[]⟩⟩
def Box (w : World) (gb : Nat) (x : S46) : Prop := w.heap[gb]? = some (Obj.cells #[.int .i64 x.f0, .int .i64 x.f1, .bool x.f2, .int .i64 x.f3, .int .i64 x.f4, .int .i64 x.f5, .int .i64 x.f6, .int .i64 x.f7, .int .i64 x.f8, .string x.f9] 46 (0, 0))
theorem Box.far {w : World} {gb gc j : Nat} {x : S46} (h : Box w gb x) (hne : gb ≠ gc) (u : Value) : Box (w.setCell ⟨gc, j, none⟩ u) gb x := blk_far h hne u
theorem Box.alloc {w : World} {gb : Nat} {x : S46} (h : Box w gb x) (o : Obj) : Box (w.alloc o) gb x := blk_alloc h o
theorem Box.keep {w w1 : World} {g gb : Nat} {x : S46} (h : Box w gb x) (hk : KeepBut w w1 g none) (hne : gb ≠ g) : Box w1 gb x := keep_box hk h hne
theorem Box.f5 {w : World} {gb : Nat} {x : S46} (h : Box w gb x) (v : Int) : Box (w.setCell ⟨gb, 5, none⟩ (.int .i64 v)) gb ⟨x.f0, x.f1, x.f2, x.f3, x.f4, v, x.f6, x.f7, x.f8, x.f9⟩ := blk_put h 5 _ rfl
theorem Box.f6 {w : World} {gb : Nat} {x : S46} (h : Box w gb x) (v : Int) : Box (w.setCell ⟨gb, 6, none⟩ (.int .i64 v)) gb ⟨x.f0, x.f1, x.f2, x.f3, x.f4, x.f5, v, x.f7, x.f8, x.f9⟩ := blk_put h 6 _ rfl
theorem Box.f7 {w : World} {gb : Nat} {x : S46} (h : Box w gb x) (v : Int) : Box (w.setCell ⟨gb, 7, none⟩ (.int .i64 v)) gb ⟨x.f0, x.f1, x.f2, x.f3, x.f4, x.f5, x.f6, v, x.f8, x.f9⟩ := blk_put h 7 _ rfl
theorem Box.f8 {w : World} {gb : Nat} {x : S46} (h : Box w gb x) (v : Int) : Box (w.setCell ⟨gb, 8, none⟩ (.int .i64 v)) gb ⟨x.f0, x.f1, x.f2, x.f3, x.f4, x.f5, x.f6, x.f7, v, x.f9⟩ := blk_put h 8 _ rfl
theorem Box.f9 {w : World} {gb : Nat} {x : S46} (h : Box w gb x) (v : ByteArray) : Box (w.setCell ⟨gb, 9, none⟩ (.string v)) gb ⟨x.f0, x.f1, x.f2, x.f3, x.f4, x.f5, x.f6, x.f7, x.f8, v⟩ := blk_put h 9 _ rfl
theorem Box.all {w : World} {gb : Nat} {x : S46} (h : Box w gb x) : w.cell? ⟨gb, 0, none⟩ = some (.int .i64 x.f0) ∧ w.cell? ⟨gb, 1, none⟩ = some (.int .i64 x.f1) ∧ w.cell? ⟨gb, 2, none⟩ = some (.bool x.f2) ∧ w.cell? ⟨gb, 3, none⟩ = some (.int .i64 x.f3) ∧ w.cell? ⟨gb, 4, none⟩ = some (.int .i64 x.f4) ∧ w.cell? ⟨gb, 5, none⟩ = some (.int .i64 x.f5) ∧ w.cell? ⟨gb, 6, none⟩ = some (.int .i64 x.f6) ∧ w.cell? ⟨gb, 7, none⟩ = some (.int .i64 x.f7) ∧ w.cell? ⟨gb, 8, none⟩ = some (.int .i64 x.f8) ∧ w.cell? ⟨gb, 9, none⟩ = some (.string x.f9) ∧ ∀ j, w.frozen? ⟨gb, j, none⟩ = false := ⟨(blk_cell h 0).trans rfl, (blk_cell h 1).trans rfl, (blk_cell h 2).trans rfl, (blk_cell h 3).trans rfl, (blk_cell h 4).trans rfl, (blk_cell h 5).trans rfl, (blk_cell h 6).trans rfl, (blk_cell h 7).trans rfl, (blk_cell h 8).trans rfl, (blk_cell h 9).trans rfl, fun j => blk_frozen h j⟩
theorem C_ints {w : World} {g : Nat} (l : List Int) {cs : Array Value} (hb : w.heap[g]? = some (Obj.cells cs 3 (0, 0))) (e : cs = (l.map (Value.int .i64)).toArray) (hl : l.length ≤ 1000) : Kd.C (Kd.int .i64) w (some ⟨g, 0, none⟩) l.length l := by
  subst e
  refine Kd.C_of_reads (d := (0 : Int)) (h1 := fun _ => rfl) ?_
  refine ⟨rfl, by omega, fun _ => ⟨_, rfl, fun j hj => ?_⟩⟩
  have ea : (⟨g, 0, none⟩ : Addr).add j = ⟨g, j, none⟩ := by unfold Addr.add; split <;> simp_all
  rw [ea, blk_cell hb]
  simp [List.getD_eq_getElem?_getD, hj]
theorem Box.ints {w : World} {gb : Nat} {x : S46} (h : Box w gb x) : w.cell? ⟨gb, 5, none⟩ = some (.int .i64 x.f5) ∧ w.cell? ⟨gb, 6, none⟩ = some (.int .i64 x.f6) ∧ w.cell? ⟨gb, 7, none⟩ = some (.int .i64 x.f7) ∧ w.cell? ⟨gb, 8, none⟩ = some (.int .i64 x.f8) ∧ w.cell? ⟨gb, 9, none⟩ = some (.string x.f9) ∧ ∀ j, w.frozen? ⟨gb, j, none⟩ = false := ⟨(blk_cell h 5).trans rfl, (blk_cell h 6).trans rfl, (blk_cell h 7).trans rfl, (blk_cell h 8).trans rfl, (blk_cell h 9).trans rfl, fun j => blk_frozen h j⟩
theorem put_cur {w0 w : World} {g gb : Nat} {c : List Int} {p : Int} {u0 u1 u2 u3 u4 u5 u6 u7 u8 u9 : Value} (h : Cur w0 w g c p) (hne : gb ≠ g) (hge : w0.heap.size ≤ gb) : Cur w0 ((((((((((w.setCell ⟨gb, 0, none⟩ u0).setCell ⟨gb, 1, none⟩ u1).setCell ⟨gb, 2, none⟩ u2).setCell ⟨gb, 3, none⟩ u3).setCell ⟨gb, 4, none⟩ u4).setCell ⟨gb, 5, none⟩ u5).setCell ⟨gb, 6, none⟩ u6).setCell ⟨gb, 7, none⟩ u7).setCell ⟨gb, 8, none⟩ u8).setCell ⟨gb, 9, none⟩ u9) g c p := ((((((((((h.set hne hge 0 u0).set hne hge 1 u1).set hne hge 2 u2).set hne hge 3 u3).set hne hge 4 u4).set hne hge 5 u5).set hne hge 6 u6).set hne hge 7 u7).set hne hge 8 u8).set hne hge 9 u9)
theorem put_keep {w0 w : World} {g gb : Nat} {u0 u1 u2 u3 u4 u5 u6 u7 u8 u9 : Value} (h : KeepBut w0 w g none) (hge : w0.heap.size ≤ gb) : KeepBut w0 ((((((((((w.setCell ⟨gb, 0, none⟩ u0).setCell ⟨gb, 1, none⟩ u1).setCell ⟨gb, 2, none⟩ u2).setCell ⟨gb, 3, none⟩ u3).setCell ⟨gb, 4, none⟩ u4).setCell ⟨gb, 5, none⟩ u5).setCell ⟨gb, 6, none⟩ u6).setCell ⟨gb, 7, none⟩ u7).setCell ⟨gb, 8, none⟩ u8).setCell ⟨gb, 9, none⟩ u9) g none := (keep_far (p := ⟨gb, 9, none⟩) (keep_far (p := ⟨gb, 8, none⟩) (keep_far (p := ⟨gb, 7, none⟩) (keep_far (p := ⟨gb, 6, none⟩) (keep_far (p := ⟨gb, 5, none⟩) (keep_far (p := ⟨gb, 4, none⟩) (keep_far (p := ⟨gb, 3, none⟩) (keep_far (p := ⟨gb, 2, none⟩) (keep_far (p := ⟨gb, 1, none⟩) (keep_far (p := ⟨gb, 0, none⟩) h hge u0) hge u1) hge u2) hge u3) hge u4) hge u5) hge u6) hge u7) hge u8) hge u9)
theorem put_box {w : World} {gb t : Nat} {z0 z1 z2 z3 z4 z5 z6 z7 z8 z9 u0 u1 u2 u3 u4 u5 u6 u7 u8 u9 : Value} (h : w.heap[gb]? = some (Obj.cells #[z0, z1, z2, z3, z4, z5, z6, z7, z8, z9] t (0, 0))) : ((((((((((w.setCell ⟨gb, 0, none⟩ u0).setCell ⟨gb, 1, none⟩ u1).setCell ⟨gb, 2, none⟩ u2).setCell ⟨gb, 3, none⟩ u3).setCell ⟨gb, 4, none⟩ u4).setCell ⟨gb, 5, none⟩ u5).setCell ⟨gb, 6, none⟩ u6).setCell ⟨gb, 7, none⟩ u7).setCell ⟨gb, 8, none⟩ u8).setCell ⟨gb, 9, none⟩ u9).heap[gb]? = some (Obj.cells #[u0, u1, u2, u3, u4, u5, u6, u7, u8, u9] t (0, 0)) := (blk_put (cs' := #[u0, u1, u2, u3, u4, u5, u6, u7, u8, u9]) (blk_put (cs' := #[u0, u1, u2, u3, u4, u5, u6, u7, u8, z9]) (blk_put (cs' := #[u0, u1, u2, u3, u4, u5, u6, u7, z8, z9]) (blk_put (cs' := #[u0, u1, u2, u3, u4, u5, u6, z7, z8, z9]) (blk_put (cs' := #[u0, u1, u2, u3, u4, u5, z6, z7, z8, z9]) (blk_put (cs' := #[u0, u1, u2, u3, u4, z5, z6, z7, z8, z9]) (blk_put (cs' := #[u0, u1, u2, u3, z4, z5, z6, z7, z8, z9]) (blk_put (cs' := #[u0, u1, u2, z3, z4, z5, z6, z7, z8, z9]) (blk_put (cs' := #[u0, u1, z2, z3, z4, z5, z6, z7, z8, z9]) (blk_put (cs' := #[u0, z1, z2, z3, z4, z5, z6, z7, z8, z9]) h 0 _ rfl) 1 _ rfl) 2 _ rfl) 3 _ rfl) 4 _ rfl) 5 _ rfl) 6 _ rfl) 7 _ rfl) 8 _ rfl) 9 _ rfl)
set_option maxHeartbeats 8000000 in
set_option maxRecDepth 100000 in
theorem bundle_run (w0 w : World) (g : Nat) (c : List Int) (p : Int) (h : Cur w0 w g c p) (hp : p ≤ 1000000000000) : Calls Try.prog 61 #[.pointer (some ⟨g, 0, none⟩)] w fun e w' => (∃ x : S46, e = .returned (.agg #[.int .i64 x.f0, .int .i64 x.f1, .bool x.f2, .int .i64 x.f3, .int .i64 x.f4, .int .i64 x.f5, .int .i64 x.f6, .int .i64 x.f7, .int .i64 x.f8, .string x.f9]) ∧ Ok8 x) ∧ Cur w0 w' g c (p + 60) ∧ KeepBut w w' g none := by
  have hu46 := Try.underlying46
  have HC := Aside0.mk h
  have HL0 := Aside0.mk h.lt
  have HW00 : w0.heap.size ≤ w.heap.size := by
    obtain ⟨_, _, _, _, _, _, _, hB, _⟩ := h
    exact hB.size
  have HK := Aside0.mk (KeepBut.refl w g none)
  clear h
  go_enter Try.func61, Try.ntmps61
  go_upto_region 2 with (first
    | ((with_reducible refine gate_dst (N := 2) rfl ?_); refine box_event ?hg (N := 2) ?hd (cs := #[.int .i64 0, .int .i64 0, .bool false, .int .i64 0, .int .i64 0, .int .i64 0, .int .i64 0, .int .i64 0, .int .i64 0, .string (⟨#[]⟩ : ByteArray)]) (t := 46) ?hr ?_; (case hd => rfl); (case hg => rfl); (case hr => first | (go_simp; done) | (go_simp; rfl)); intro gb hg w1 hbox hbl; subst hg; have BK := Aside0.mk hbox; have HK2 := Aside0.mk (keep_then HK.out (KeepBut.of_below hbl g none)); have HC2 := Aside0.mk (HC.out.below hbl); clear HC HK hbox hbl)
    | (go_at_call 67; (with_reducible refine (pick_run w0 _ g c _ _ HC2.out (by omega) (by decide)).mono ?_); rintro e w1 ⟨⟨v, rfl, v0, v1⟩, hc1, hk1⟩; have n0_ := Aside0.mk (keep_box hk1 BK.out (HC2.out.ne BK.out (by decide))); have n1_ := Aside0.mk (keep_then HK2.out hk1); have n2_ := Aside0.mk hc1; clear BK HK2 HC2 hc1 hk1; have BK := n0_; have HK2 := n1_; have HC2 := n2_; clear n0_ n1_ n2_)
    | (go_at_call 60; (with_reducible refine (one_run w0 _ g c _ _ HC2.out (by omega) (by decide)).mono ?_); rintro e w1 ⟨⟨v, rfl⟩, hc1, hk1⟩; have n0_ := Aside0.mk (keep_box hk1 BK.out (HC2.out.ne BK.out (by decide))); have n1_ := Aside0.mk (keep_then HK2.out hk1); have n2_ := Aside0.mk hc1; clear BK HK2 HC2 hc1 hk1; have BK := n0_; have HK2 := n1_; have HC2 := n2_; clear n0_ n1_ n2_)
    | (go_at_call 76; go_loud (refine (of_run w0 _ g c _ _ 4 [(⟨#[]⟩ : ByteArray), ⟨#[104, 101, 108, 108, 111]⟩, ⟨#[97, 32, 108, 111, 110, 103, 101, 114, 32, 116, 101, 120, 116, 32, 111, 102, 32, 115, 111, 109, 101, 32, 98, 121, 116, 101, 115]⟩, ⟨#[0, 255]⟩] (HC2.out.below (below_alloc (Below.refl _ _) _)) (by omega) (C_strings _ (blk_new _ _) rfl (by decide)) (fun ad e => by cases e; exact Nat.ne_of_gt HC2.out.lt) (by decide) (by decide)).mono ?_; rintro e w1 ⟨⟨v, rfl, hv⟩, hc1, hk1⟩; have n0_ := Aside0.mk (keep_box hk1 (blk_alloc BK.out _) (HC2.out.ne BK.out (by decide))); have n1_ := Aside0.mk (keep_then (keep_alloc HK2.out _) hk1); have n2_ := Aside0.mk hc1; have HV := Aside0.mk hv; clear hv BK HK2 HC2 hc1 hk1; have BK := n0_; have HK2 := n1_; have HC3 := n2_; clear n0_ n1_ n2_)))
  go_cut [29] (fun v29 wc => ∃ (b : Bool) (x : S46), v29 = .bool b ∧ Aside0 (wc.heap[w1.heap.size]? = some (Obj.cells #[.int .i64 x.f0, .int .i64 x.f1, .bool x.f2, .int .i64 x.f3, .int .i64 x.f4, .int .i64 x.f5, .int .i64 x.f6, .int .i64 x.f7, .int .i64 x.f8, .string x.f9] 46 (0, 0))) ∧ Aside0 (Ok8 x) ∧ Aside0 (Box wc w.heap.size nob) ∧ Aside0 (Cur w0 wc g c (p + 30)) ∧ Aside0 (KeepBut w wc g none))
  case first =>
    have HC4 := fun o => Aside0.mk (HC3.out.below (below_alloc (Below.refl w1.heap.size w1) o))
    have HK4 := fun o => Aside0.mk (keep_alloc HK2.out o)
    have BK4 := fun o => Aside0.mk (blk_new w1 o)
    have RB4 := fun o => Aside0.mk (Box.alloc (show Box w1 w.heap.size nob from by first | exact BK.out | (have := BK.out; simp_all; done)) o)
    have HNr : w.heap.size ≠ g := Nat.ne_of_gt HL0.out
    by_cases hE : v.toList = ([] : List UInt8)
    · have b0 : (v.toList == ([] : List UInt8)) = true := beq_iff_eq.mpr hE
      have b1 : (v.toList != ([] : List UInt8)) = false := bne_eq_false_iff_eq.mpr hE
      go_wp2
      go_meet
      case rel => exact ⟨false, ⟨_, _, _, _, _, _, _, _, _, _⟩, by first | rfl | simp [*], BK4 _, ⟨⟨Int.le_refl 0, Int.le_of_lt (by decide : (0 : Int) < 100)⟩⟩, RB4 _, ⟨(HC4 _).out.mono (by omega)⟩, HK4 _⟩
    · have b0 : (v.toList == ([] : List UInt8)) = false := beq_eq_false_iff_ne.mpr hE
      have b1 : (v.toList != ([] : List UInt8)) = true := bne_iff_ne.mpr hE
      go_wp2_with (first
        | (go_at_call 60; (refine (one_run w0 _ g c _ _ (HC4 _).out (by omega) (by decide)).mono ?_); rintro e w2 ⟨⟨b, rfl⟩, hc1, hk1⟩; have n0_ := Aside0.mk (keep_box hk1 (BK4 _).out (Nat.ne_of_gt HC3.out.lt)); have n1_ := Aside0.mk (keep_then (HK4 _).out hk1); have n2_ := Aside0.mk hc1; have n3_ := Aside0.mk ((RB4 _).out.keep hk1 HNr)))
      go_meet
      case rel => exact ⟨b, ⟨_, _, _, _, _, _, _, _, _, _⟩, by first | rfl | simp [*], n0_, ⟨⟨Int.le_refl 0, Int.le_of_lt (by decide : (0 : Int) < 100)⟩⟩, n3_, ⟨n2_.out.mono (by omega)⟩, n1_⟩
  case rest =>
    obtain ⟨b, x, rfl, BX, HX, RB, HC, HK⟩ := hcut
    have HNr : w.heap.size ≠ g := Nat.ne_of_gt HL0.out
    have HL3 := HC3.out.lt
    have HRl : w.heap.size < w1.heap.size := blk_lt BK.out
    have HN := HC3.out.lt
    have HN2 : w1.heap.size ≠ g := Nat.ne_of_gt HN
    have HW : w.heap.size ≤ w1.heap.size := HK2.out.1
    have HW0 : w0.heap.size ≤ w1.heap.size := by
      obtain ⟨_, _, _, _, _, _, _, hB, _⟩ := HC3.out
      exact hB.size
    replace BX : Aside0 (Box wc w1.heap.size x) := BX
    clear HC3 HK2 HV BK HL3
    generalize w1.heap.size = gb at *
    have hnr1 : w.heap.size ≠ gb := Nat.ne_of_lt HRl
    have hnr2 : gb ≠ w.heap.size := Nat.ne_of_gt HRl
    go_upto_if 29 with (fail)
    go_cut [] (fun wc => ∃ (x : S46), Aside0 (Box wc gb x) ∧ Aside0 (Ok8 x) ∧ Aside0 (Box wc w.heap.size nob) ∧ Aside0 (Cur w0 wc g c (p + 40)) ∧ Aside0 (KeepBut w wc g none))
    case first =>
      cases b with
      | false =>
        go_wp2
        go_meet
        case rel => exact ⟨x, BX, HX, RB, ⟨HC.out.mono (by omega)⟩, HK⟩
      | true =>
        go_wp2_with (first
          | (go_at_call 67; (refine (pick_run w0 _ g c _ _ HC.out (by omega) (by decide)).mono ?_); rintro e w2 ⟨⟨v2, rfl, v20, v21⟩, hc1, hk1⟩; have B2 := Aside0.mk (BX.out.keep hk1 HN2); have R2 := Aside0.mk (RB.out.keep hk1 HNr); have K2 := Aside0.mk (keep_then HK.out hk1); have C2 := Aside0.mk hc1; clear HC HK hc1 hk1; obtain ⟨_, _, hz7, hz8, _, hzf⟩ := B2.out.ints; have hzf8 := hzf 8; have B3 := fun u => Aside0.mk (B2.out.f8 u); have C3 := fun u => Aside0.mk (C2.out.set HN2 HW0 8 u); have K3 := fun u => Aside0.mk (keep_far (p := ⟨gb, 8, none⟩) K2.out HW u))
          | (go_at_call 67; go_loud ((refine (pick_run w0 _ g c _ _ (C3 _).out (by omega) (by decide)).mono ?_); rintro e w2 ⟨⟨v2, rfl, v20, v21⟩, hc1, hk1⟩; have B4 := Aside0.mk ((B3 _).out.keep hk1 HN2); have R4 := Aside0.mk ((R2.out.far hnr1 _).keep hk1 HNr); have K4 := Aside0.mk (keep_then (K3 _).out hk1); have C4 := Aside0.mk hc1; clear C3 K3 hc1 hk1; obtain ⟨_, _, hy7, hy8, _, hyf⟩ := B4.out.ints; have hyf7 := hyf 7)))
        go_meet
        case rel => exact ⟨_, ⟨B4.out.f7 _⟩, ⟨by refine ⟨?_, ?_⟩ <;> dsimp only <;> omega⟩, ⟨R4.out.far hnr1 _⟩, ⟨(C4.out.set HN2 HW0 7 _).mono (by omega)⟩, ⟨keep_far K4.out HW _⟩⟩
    case rest =>
      clear BX HX HC HK RB
      obtain ⟨x, BX, HX, RB, HC, HK⟩ := hcut
      go_wp2_with (first
        | (go_at_call 67; (refine (pick_run w0 _ g c _ _ HC.out (by omega) (by decide)).mono ?_); rintro e w2 ⟨⟨v2, rfl, v20, v21⟩, hc1, hk1⟩; have B2 := Aside0.mk (BX.out.keep hk1 HN2); have R2 := Aside0.mk (RB.out.keep hk1 HNr); have K2 := Aside0.mk (keep_then HK.out hk1); have C2 := Aside0.mk hc1; clear HC HK hc1 hk1; obtain ⟨hz0, hz1, hz2, hz3, hz4, hz5, hz6, hz7, hz8, hz9, hzf⟩ := B2.out.all; have hzf5 := hzf 5; have hzf6 := hzf 6; have hzf7 := hzf 7; obtain ⟨hr0, hr1, hr2, hr3, hr4, hr5, hr6, hr7, hr8, hr9, hrf⟩ := R2.out.all; have hrf0 := hrf 0; have hrf1 := hrf 1; have hrf2 := hrf 2; have hrf3 := hrf 3; have hrf4 := hrf 4; have hrf5 := hrf 5; have hrf6 := hrf 6; have hrf7 := hrf 7; have hrf8 := hrf 8; have hrf9 := hrf 9)
        | (go_at_call 62; (refine (among_run w0 _ g c _ _ 3 [0, 1000000, 1000001] (C2.out.below (below_alloc (Below.refl _ _) _)) (by omega) (C_ints _ (blk_new _ _) rfl (by decide)) (fun ad e => by cases e; exact Nat.ne_of_gt C2.out.lt) (by decide) (by decide)).mono ?_); rintro e w3 ⟨⟨v3, rfl, hv3⟩, hc1, hk1⟩; have R4 := Aside0.mk ((R2.out.alloc _).keep hk1 HNr); have B4 := Aside0.mk (Box.keep (show Box (w2.alloc _) gb x from blk_alloc B2.out _) hk1 HN2); have K4 := Aside0.mk (keep_then (keep_alloc K2.out _) hk1); have C4 := Aside0.mk hc1; clear C2 K2 hc1 hk1; obtain ⟨hz0, hz1, hz2, hz3, hz4, hz5, hz6, hz7, hz8, hz9, hzf⟩ := B4.out.all; have hzf5 := hzf 5; have hzf6 := hzf 6; have hzf7 := hzf 7; obtain ⟨hr0, hr1, hr2, hr3, hr4, hr5, hr6, hr7, hr8, hr9, hrf⟩ := R4.out.all; have hrf0 := hrf 0; have hrf1 := hrf 1; have hrf2 := hrf 2; have hrf3 := hrf 3; have hrf4 := hrf 4; have hrf5 := hrf 5; have hrf6 := hrf 6; have hrf7 := hrf 7; have hrf8 := hrf 8; have hrf9 := hrf 9)
        | (go_at_call 62; (refine (among_run w0 _ g c _ _ 3 [-1, 30, 31] (C2.out.below (below_alloc (Below.refl _ _) _)) (by omega) (C_ints _ (blk_new _ _) rfl (by decide)) (fun ad e => by cases e; exact Nat.ne_of_gt C2.out.lt) (by decide) (by decide)).mono ?_); rintro e w3 ⟨⟨v3, rfl, hv3⟩, hc1, hk1⟩; have R4 := Aside0.mk ((R2.out.alloc _).keep hk1 HNr); have B4 := Aside0.mk (Box.keep (show Box (w2.alloc _) gb x from blk_alloc B2.out _) hk1 HN2); have K4 := Aside0.mk (keep_then (keep_alloc K2.out _) hk1); have C4 := Aside0.mk hc1; clear C2 K2 hc1 hk1; obtain ⟨hz0, hz1, hz2, hz3, hz4, hz5, hz6, hz7, hz8, hz9, hzf⟩ := B4.out.all; have hzf5 := hzf 5; have hzf6 := hzf 6; have hzf7 := hzf 7; obtain ⟨hr0, hr1, hr2, hr3, hr4, hr5, hr6, hr7, hr8, hr9, hrf⟩ := R4.out.all; have hrf0 := hrf 0; have hrf1 := hrf 1; have hrf2 := hrf 2; have hrf3 := hrf 3; have hrf4 := hrf 4; have hrf5 := hrf 5; have hrf6 := hrf 6; have hrf7 := hrf 7; have hrf8 := hrf 8; have hrf9 := hrf 9)
        | (go_at_call 67; (refine (pick_run w0 _ g c _ _ C2.out (by omega) (by decide)).mono ?_); rintro e w3 ⟨⟨v3, rfl, v30, v31⟩, hc1, hk1⟩; have R4 := Aside0.mk (R2.out.keep hk1 HNr); have B4 := Aside0.mk (B2.out.keep hk1 HN2); have K4 := Aside0.mk (keep_then K2.out hk1); have C4 := Aside0.mk hc1; clear C2 K2 hc1 hk1; obtain ⟨hz0, hz1, hz2, hz3, hz4, hz5, hz6, hz7, hz8, hz9, hzf⟩ := B4.out.all; have hzf5 := hzf 5; have hzf6 := hzf 6; have hzf7 := hzf 7; obtain ⟨hr0, hr1, hr2, hr3, hr4, hr5, hr6, hr7, hr8, hr9, hrf⟩ := R4.out.all; have hrf0 := hrf 0; have hrf1 := hrf 1; have hrf2 := hrf 2; have hrf3 := hrf 3; have hrf4 := hrf 4; have hrf5 := hrf 5; have hrf6 := hrf 6; have hrf7 := hrf 7; have hrf8 := hrf 8; have hrf9 := hrf 9))
      · exact bodyPost_ret (results_cell_row rfl _ _ w.heap.size 46 _ (0, 0) _ rfl (put_box (R4.out.far hnr1 _)) hu46 rfl (by kernel_rfl)) rfl ⟨⟨⟨x.f0, x.f1, x.f2, x.f3, x.f4, v3, x.f6, x.f7, x.f8, x.f9⟩, rfl, HX.out⟩, (put_cur (C4.out.set HN2 HW0 5 _) HNr HW00).mono (by omega), put_keep (keep_far (p := ⟨gb, 5, none⟩) K4.out HW _) (Nat.le_refl _)⟩
      · exact bodyPost_ret (results_cell_row rfl _ _ w.heap.size 46 _ (0, 0) _ rfl (put_box (R4.out.far hnr1 _)) hu46 rfl (by kernel_rfl)) rfl ⟨⟨⟨x.f0, x.f1, x.f2, x.f3, x.f4, x.f5, v3, x.f7, x.f8, x.f9⟩, rfl, HX.out⟩, (put_cur (C4.out.set HN2 HW0 6 _) HNr HW00).mono (by omega), put_keep (keep_far (p := ⟨gb, 6, none⟩) K4.out HW _) (Nat.le_refl _)⟩
      · exact bodyPost_ret (results_cell_row rfl _ _ w.heap.size 46 _ (0, 0) _ rfl (put_box (R4.out.far hnr1 _)) hu46 rfl (by kernel_rfl)) rfl ⟨⟨⟨x.f0, x.f1, x.f2, x.f3, x.f4, x.f5, x.f6, v3, x.f8, x.f9⟩, rfl, HX.out⟩, (put_cur (C4.out.set HN2 HW0 7 _) HNr HW00).mono (by omega), put_keep (keep_far (p := ⟨gb, 7, none⟩) K4.out HW _) (Nat.le_refl _)⟩
      · exact bodyPost_ret (results_cell_row rfl _ _ w.heap.size 46 _ (0, 0) _ rfl (put_box R2.out) hu46 rfl (by kernel_rfl)) rfl ⟨⟨⟨_, _, _, _, _, _, _, _, _, _⟩, rfl, HX.out⟩, (put_cur C2.out HNr HW00).mono (by omega), put_keep K2.out (Nat.le_refl _)⟩
end Go.Proofs.Ytlkbbolkadkedaa.QFnPieces
