import Derived.Test.YtlkbbolkadkedaaQFnCoversx0
import Derived.Test.YtlkbbolkadkedaaQFnCoversx9
import Derived.Test.YtlkbbolkadkedaaSr
import Derived.Test.YtlkbbolkadkedaaSq
namespace Go.Proofs.Ytlkbbolkadkedaa.QFnCovers
open Go.RowKit Go.Proofs.YtlkbbolkadkedaaW.PrintWords Go.Proofs.YtlkbbolkadkedaaW.PrintLast Go.Proofs.YtlkbbolkadkedaaW.PrintMore
attribute [local go_sem] max2_int min2_int max_two min_two max_three min_three max_four min_four   -- for this text's walks alone
set_option linter.unusedVariables false
set_option linter.unusedSimpArgs false
def wput (xs : List Int) (o : Nat) (s : ByteArray) : List Int := xs.take o ++ bytesOf s ++ xs.drop (o + s.size)
theorem wput_len (xs : List Int) (o : Nat) (s : ByteArray) (h : o + s.size ≤ xs.length) : (wput xs o s).length = xs.length := by
 simp only [wput, List.length_append, List.length_take, List.length_drop, bytesOf_length]; omega
theorem who_open {W : World} {base g cap : Nat} {xs : List Int} (h : Kd.R (Kd.int .u8) 5 W base (fun _ => True) (.slice (some ⟨g, 0, none⟩) xs.length cap) xs) :
  ∃ cur, W.heap[g]? = some (.cells cur 5 (0, 0)) ∧ base ≤ g ∧ xs.length ≤ cap ∧ cap ≤ maxLen ∧ cur.size = cap ∧ cur.toList.take xs.length = xs.map (Value.int .u8) := by
 obtain ⟨_, inner, ⟨hl, ho⟩, hr⟩ := h; have e : inner = xs.map (Value.int .u8) := by
  obtain ⟨h1, h2⟩ := hr; apply List.ext_getElem?; intro j; by_cases hj : j < xs.length
  ·have := h2 j xs[j] (List.getElem?_eq_getElem hj); have h3 : (inner.drop (j * 1)).take 1 = [.int .u8 xs[j]] := this; have hj' : j < inner.length := by rw [hl]; show j < xs.length * 1; omega
   rw [List.getElem?_eq_getElem hj', List.getElem?_map, List.getElem?_eq_getElem hj]; have h4 : ((inner.drop (j * 1)).take 1)[0]? = some inner[j] := by simp [hj']
   rw [h3] at h4
   simpa using h4.symm
  ·rw [List.getElem?_eq_none (by rw [hl]; show xs.length * 1 ≤ j; omega), List.getElem?_eq_none (by simp; omega)]
 subst e; rcases ho with ⟨h1, h2⟩ | ⟨g', cap', cur, h1, h2, h3, h4, h5, h6, h7⟩
 ·cases h1
 ·injection h1 with e1 e2 e3
  injection e1 with e1
  injection e1 with e1
  subst e1; subst e3; exact ⟨cur, h3, h2, h4, h5, by simpa [Kd.int, Kd.scalar] using h6, by simpa [Kd.int, Kd.scalar] using h7⟩
theorem who_close {W : World} {base g cap : Nat} {cur : Array Value} {xs : List Int} (h2 : base ≤ g) (h3 : W.heap[g]? = some (.cells cur 5 (0, 0))) (h4 : xs.length ≤ cap) (h5 : cap ≤ maxLen) (h6 : cur.size = cap) (h7 : cur.toList.take xs.length = xs.map (Value.int .u8)) :
  Kd.R (Kd.int .u8) 5 W base (fun _ => True) (.slice (some ⟨g, 0, none⟩) xs.length cap) xs :=
 ⟨fun _ _ => trivial, xs.map (Value.int .u8), ⟨by simp [Kd.int, Kd.scalar], .inr ⟨g, cap, cur, rfl, h2, h3, h4, h5, by simpa [Kd.int, Kd.scalar] using h6, by simpa [Kd.int, Kd.scalar] using h7⟩⟩,
  ⟨by simp [Kd.int, Kd.scalar], fun j p hp => by
   show ((xs.map (Value.int .u8)).drop (j * 1)).take 1 = [.int .u8 p]; have hj : j < xs.length := (List.getElem?_eq_some_iff.1 hp).1; have e : xs[j] = p := (List.getElem?_eq_some_iff.1 hp).2; apply List.ext_getElem?; intro i; cases i with
   | zero => simp [hj, e]
   | succ i => simp; omega⟩⟩
theorem who_slice (W : World) (g len cap : Nat) (f : Int) (h0 : 0 ≤ f) (h1 : f < (len : Int)) (h2 : len ≤ cap) :
  (Instr.slice 52 (.slice (some ⟨g, 0, none⟩) len cap) (some (.int .i64 f)) none none).run Try.prog W = .ok (.slice (some ⟨g, f.toNat, none⟩) (len - f.toNat) (cap - f.toNat)) W := by
 have he : Try.prog.elem 52 = 5 := by kernel_rfl
 have hu : Try.prog.underlying 52 = some (.slice (Try.prog.elem 52)) := by rw [he]; exact Try.underlying52
 rw [run_slice_l W 52 (some ⟨g, 0, none⟩) len cap hu .i64 f h0 (by omega)]; have hz : (Go.sizeOf (Try.prog.elem 52)).run Try.prog W = .ok 1 W := by
  rw [he]; go_simp
 rw [hz]; have hne : ¬ cap = f.toNat := by omega
 simp [Result.andThen, sliced, hne, Addr.add]; intro _; omega
theorem who_copy {W : World} {base g cap : Nat} {xs : List Int} (h : Kd.R (Kd.int .u8) 5 W base (fun _ => True) (.slice (some ⟨g, 0, none⟩) xs.length cap) xs) (o : Nat) (s : ByteArray) (hfit : o + s.size ≤ xs.length) :
  ∃ W' : World, (∀ ty dcap, (Builtin.copy_ #[52, 9] ty #[.slice (some ⟨g, o, none⟩) (xs.length - o) dcap, .string s]).run Try.prog W = .ok (goInt s.size) W') ∧ Kd.R (Kd.int .u8) 5 W' base (fun _ => True) (.slice (some ⟨g, 0, none⟩) (wput xs o s).length cap) (wput xs o s) ∧ W.grownBy W' (some g) := by
 obtain ⟨cur, h1, h2, h3, h4, h5, h6⟩ := who_open h; have hc : xs.length ≤ cur.toList.length := by simp; omega
 have hl : ∀ k, k ≤ xs.length → (cur.toList.take k) = (xs.take k).map (Value.int .u8) := fun k hk => by
  have := congrArg (List.take k) h6
  rwa [List.take_take, Nat.min_eq_left hk, ← List.map_take] at this
 refine ⟨_, fun ty dcap => Go.Lib.run_copy_row_string (P := Try.prog) W 52 9 ty 5 g o (xs.length - o) dcap s cur 5 Try.underlying52 (by kernel_rfl) h1 (by omega) (by omega), ?_, ?_⟩
 ·have hsz : (cur.toList.take o ++ Go.Lib.byteCells s.data.toList ++ cur.toList.drop (o + s.size)).length = cap := by
   have : (Go.Lib.byteCells s.data.toList).length = s.size := by simp [Go.Lib.byteCells]
   simp only [List.length_append, List.length_take, List.length_drop, this, Array.length_toList]; omega
  refine who_close h2 (setRow_heap _ _ _ _ _ _ h1) (by rw [wput_len _ _ _ hfit]; exact h3) h4 (by simpa using hsz) ?_; have eb : Go.Lib.byteCells s.data.toList = (bytesOf s).map (Value.int .u8) := by simp [Go.Lib.byteCells, bytesOf]
  rw [wput_len _ _ _ hfit]; rw [hl o (by omega), eb, wput, List.map_append, List.map_append, List.take_append, List.take_of_length_le (by simp [bytesOf_length]; omega)]
  congr 1
  have e2 : ((xs.take o).map (Value.int .u8) ++ (bytesOf s).map (Value.int .u8)).length = o + s.size := by simp [bytesOf_length]; omega
  rw [e2]; have := congrArg (List.drop (o + s.size)) h6; rw [List.drop_take, ← List.map_drop] at this; exact this
 ·refine ⟨rfl, rfl, rfl, by show _ ≤ (W.heap.modify g _).size; simp, fun i hi hne => ?_⟩; have hne' : g ≠ i := fun e => hne (by rw [e])
  show (W.heap.modify g _)[i]? = _; rw [Array.getElem?_modify, if_neg hne']
theorem cellAtW {W : World} {g : Nat} {cs : Array Value} {t : TypeId} (h : W.heap[g]? = some (.cells cs t (0, 0))) (i : Nat) {v : Value} (e : cs[i]? = some v) : W.cell? ⟨g, i, none⟩ = some v := (blk_cell h i).trans e
mutual
def impl_WholeOf.j0 : Nat → Bool → List (S46) → Option (Int × Int × Bool × Int × Int × Int × Int × Int × Int × ByteArray × Bool)
 | 0, _, _ => none
 | k + 1, x26, x340000 => if x26 = true then (some (0, 0, false, 0, 0, 0, 0, 0, 0, (⟨#[]⟩ : ByteArray), false)) else (if 0 < (x340000.length : Int) then (if 0 ≤ ((rd_T46 x340000 0).f8) then (if ((rd_T46 x340000 0).f8 : Int).toNat ≤ 281474976710656 then (impl_WholeOf.l0 k (List.replicate ((rd_T46 x340000 0).f8 : Int).toNat 0) x340000 (x340000.length : Int) 0 ((rd_T46 x340000 0).f0) ((rd_T46 x340000 0).f1) ((rd_T46 x340000 0).f2) ((rd_T46 x340000 0).f3) ((rd_T46 x340000 0).f4) ((rd_T46 x340000 0).f5) ((rd_T46 x340000 0).f6) ((rd_T46 x340000 0).f7) ((rd_T46 x340000 0).f8) ((rd_T46 x340000 0).f9)) else (none)) else (none)) else (none))
def impl_WholeOf.l0 : Nat → List Int → List (S46) → Int → Int → Int → Int → Bool → Int → Int → Int → Int → Int → Int → ByteArray → Option (Int × Int × Bool × Int × Int × Int × Int × Int × Int × ByteArray × Bool)
 | 0, _, _, _, _, _, _, _, _, _, _, _, _, _, _ => none
 | k + 1, x7, x36, x37, x38, x345000, x345001, x345002, x345003, x345004, x345005, x345006, x345007, x345008, x345009 => if x38 < x37 then (if 0 ≤ x38 then (if x38 < (x36.length : Int) then (if 0 ≤ ((rd_T46 x36 x38).f7) then (if ((rd_T46 x36 x38).f7) < (x7.length : Int) then (if (((rd_T46 x36 x38).f7) : Int).toNat + ((rd_T46 x36 x38).f9).size ≤ x7.length then (impl_WholeOf.l0 k (wput x7 (((rd_T46 x36 x38).f7) : Int).toNat ((rd_T46 x36 x38).f9)) x36 x37 (wrap64 (x38 + 1)) x345000 x345001 x345002 x345003 x345004 x345005 (mn x345006 ((rd_T46 x36 x38).f6)) x345007 x345008 x345009) else (none)) else (none)) else (none)) else (none)) else (none)) else (some (x345000, x345001, x345002, x345003, x345004, x345005, x345006, 0, 0, strOfNums x7, true))
end
def impl_WholeOf.f (k : Nat) (l0_0 : List (S46)) : Option (Int × Int × Bool × Int × Int × Int × Int × Int × Int × ByteArray × Bool) := (impl_MissingIn.f k l0_0).bind fun bt341 => (if bt341.2 = true then (if bt341.1 > 0 then (impl_WholeOf.j0 k true l0_0) else (impl_WholeOf.j0 k ((l0_0.length : Int) == 0) l0_0)) else (impl_WholeOf.j0 k true l0_0))
theorem impl_WholeOf.mono_l : ∀ k, (∀ y0 y1, LeO (impl_WholeOf.j0 k y0 y1) (impl_WholeOf.j0 (k + 1) y0 y1)) ∧ (∀ y0 y1 y2 y3 y4 y5 y6 y7 y8 y9 y10 y11 y12 y13, LeO (impl_WholeOf.l0 k y0 y1 y2 y3 y4 y5 y6 y7 y8 y9 y10 y11 y12 y13) (impl_WholeOf.l0 (k + 1) y0 y1 y2 y3 y4 y5 y6 y7 y8 y9 y10 y11 y12 y13))
 | 0 => ⟨fun _ _ r h => by simp [impl_WholeOf.j0] at h, fun _ _ _ _ _ _ _ _ _ _ _ _ _ _ r h => by simp [impl_WholeOf.l0] at h⟩
 | k + 1 => by
  obtain ⟨ih0, ih1⟩ := impl_WholeOf.mono_l k; refine ⟨?_, ?_⟩
  ·intro y0 y1; unfold impl_WholeOf.j0
   repeat' first
   | (with_reducible exact ih0 _ _)
   | (with_reducible exact ih1 _ _ _ _ _ _ _ _ _ _ _ _ _ _)
   | (with_reducible exact impl_MissingIn.mono _ _)
   | (with_reducible exact LeO.refl _)
   | (with_reducible exact LeO.none _)
   | (with_reducible refine LeO.ite ?_ ?_)
   | (with_reducible refine LeO.bind ?_ (fun _ => ?_))
   | exact ih0 _ _
   | exact ih1 _ _ _ _ _ _ _ _ _ _ _ _ _ _
   | exact impl_MissingIn.mono _ _
   | exact LeO.none _
   | refine LeO.ite ?_ ?_
   | refine LeO.bind ?_ (fun _ => ?_)
  ·intro y0 y1 y2 y3 y4 y5 y6 y7 y8 y9 y10 y11 y12 y13; unfold impl_WholeOf.l0
   repeat' first
   | (with_reducible exact ih0 _ _)
   | (with_reducible exact ih1 _ _ _ _ _ _ _ _ _ _ _ _ _ _)
   | (with_reducible exact impl_MissingIn.mono _ _)
   | (with_reducible exact LeO.refl _)
   | (with_reducible exact LeO.none _)
   | (with_reducible refine LeO.ite ?_ ?_)
   | (with_reducible refine LeO.bind ?_ (fun _ => ?_))
   | exact ih0 _ _
   | exact ih1 _ _ _ _ _ _ _ _ _ _ _ _ _ _
   | exact impl_MissingIn.mono _ _
   | exact LeO.none _
   | refine LeO.ite ?_ ?_
   | refine LeO.bind ?_ (fun _ => ?_)
theorem impl_WholeOf.mono : ∀ a0 k, LeO (impl_WholeOf.f k a0) (impl_WholeOf.f (k + 1) a0) := by
 intro a0 k; obtain ⟨ih0, ih1⟩ := impl_WholeOf.mono_l k; unfold impl_WholeOf.f
 repeat' first
   | (with_reducible exact ih0 _ _)
   | (with_reducible exact ih1 _ _ _ _ _ _ _ _ _ _ _ _ _ _)
   | (with_reducible exact impl_MissingIn.mono _ _)
   | (with_reducible exact LeO.refl _)
   | (with_reducible exact LeO.none _)
   | (with_reducible refine LeO.ite ?_ ?_)
   | (with_reducible refine LeO.bind ?_ (fun _ => ?_))
   | exact ih0 _ _
   | exact ih1 _ _ _ _ _ _ _ _ _ _ _ _ _ _
   | exact impl_MissingIn.mono _ _
   | exact LeO.none _
   | refine LeO.ite ?_ ?_
   | refine LeO.bind ?_ (fun _ => ?_)
def impl_WholeOf.T12 : Bool × List (List Nat × List Nat) := (true, [([], []), ([0], [0]), ([], []), ([2], [2]), ([2, 3], []), ([4, 3, 2, 3], [4]), ([0, 1, 2, 3, 4, 5], []), ([6, 1, 5, 0, 1, 2, 3, 4, 5], [1, 6])])
def impl_WholeOf.B12 : List Nat := [0, 1, 0, 4, 12, 28, 63, 127]
theorem impl_WholeOf.tab12 : rtab .any (opsOf Try.f29 12) = impl_WholeOf.T12 := by kernel_rfl
theorem impl_WholeOf.bits12 : waitsOk impl_WholeOf.T12.2 impl_WholeOf.B12 = true := by kernel_rfl
set_option maxHeartbeats 8000000 in
set_option maxRecDepth 100000 in
theorem impl_WholeOf.calls (k : Nat) (A0_0 : Option Addr) (c0_0 : Nat) (l0_0 : List (S46)) (r1 : Int) (r2 : Int) (r3 : Bool) (r4 : Int) (r5 : Int) (r6 : Int) (r7 : Int) (r8 : Int) (r9 : Int) (r10 : ByteArray) (r11 : Bool) (w : World) (hr0_0 : Kd.C k46 w A0_0 l0_0.length l0_0) (hc0_0 : l0_0.length ≤ c0_0) (h : impl_WholeOf.f k l0_0 = some (r1, r2, r3, r4, r5, r6, r7, r8, r9, r10, r11)) :
  Calls Try.prog 29 #[.agg #[.slice A0_0 l0_0.length c0_0]] w fun e w' => e = .returned (.tuple #[.agg #[.int .i64 r1, .int .i64 r2, .bool r3, .int .i64 r4, .int .i64 r5, .int .i64 r6, .int .i64 r7, .int .i64 r8, .int .i64 r9, .string r10], .bool r11]) ∧ Below w.heap.size w w' := by
 have hu29 := Try.underlying29; have hu46 := Try.underlying46; have HR0_0 := Aside0.mk hr0_0; have HC0_0 := Aside0.mk hc0_0; clear hr0_0 hc0_0; have HB := Aside0.mk (Below.refl w.heap.size w); have H : ((impl_MissingIn.f k l0_0).bind fun bt341 => (if bt341.2 = true then (if bt341.1 > 0 then (impl_WholeOf.j0 k true l0_0) else (impl_WholeOf.j0 k ((l0_0.length : Int) == 0) l0_0)) else (impl_WholeOf.j0 k true l0_0))) = some (r1, r2, r3, r4, r5, r6, r7, r8, r9, r10, r11) := h; clear h; replace H := Option.bind_eq_some_iff.mp H; obtain ⟨⟨t341, t342⟩, A20, H⟩ := H; (try dsimp only at H); have A2 := Aside0.mk A20; clear A20; have HC3 := Aside0.mk H; clear H
 go_enter Try.func29, Try.ntmps29
 go_upto_region 2 with (first | ((with_reducible refine gate_dst (N := 1) rfl ?_); (try (refine gate_guard (by rfl) ?_; dsimp only)); refine box_event ?hg (N := 1) ?hd (cs := #[.slice A0_0 l0_0.length c0_0]) (t := 29) ?hr ?_; (case hd => rfl); (case hg => rfl); (case hr => first | (go_simp; done) | (go_simp; rfl)); intro gb339 hg w4 hbox hb; have BK339 := Aside0.mk (hbox); have GW339 := ge_ HB hg; have GE339 := ge_ HB hg; replace HB := hb_ HB hb; clear hb hbox hg) | ((with_reducible refine gate_dst (N := 2) rfl ?_); (try (refine gate_guard (by rfl) ?_; dsimp only)); refine box_event ?hg (N := 2) ?hd (cs := #[.int .i64 0, .int .i64 0, .bool false, .int .i64 0, .int .i64 0, .int .i64 0, .int .i64 0, .int .i64 0, .int .i64 0, .string (⟨#[]⟩ : ByteArray)]) (t := 46) ?hr ?_; (case hd => rfl); (case hg => rfl); (case hr => first | (go_simp; done) | (go_simp; rfl)); intro gb340 hg w5 hbox hb; have BK340 := Aside0.mk (hbox); have GW340 := ge_ HB hg; have GE340 := ge_ HB hg; replace HB := hb_ HB hb; have NB339_340 := nl_ BK339 hg; have NB340_339 := ng_ BK339 hg; replace BK339 := ba_ BK339 hb; clear hb hbox hg; have hnb6 := NB339_340.out; have hnc6 := NB340_339.out; have hcz7_0 : w5.cell? ⟨gb339, 0, none⟩ = some (.slice A0_0 l0_0.length c0_0) := (blk_cell BK339.out 0).trans rfl; have hfz7_0 := blk_frozen BK339.out 0) | ((with_reducible refine gate_callee (f := 22) rfl ?_); refine goesL_ (some 12) rfl rfl Try.func22 (by kernel_rfl) rfl #[.agg #[.slice A0_0 l0_0.length c0_0]] rfl (by (try simp only [List.map_toArray, List.map_cons, List.map_nil]); first | done | rfl | (simp only [List.length_drop, List.length_take]; rfl)) ?_; (with_reducible refine (impl_MissingIn.calls k _ _ l0_0 t341 t342 _ ?side1 ?side2 A2.out).mono ?_); (case side1 => repeat (first | exact (Kd.C_below HR0_0.out HB.out) | with_reducible first | refine Kd.C_alloc ?_ _ | refine Kd.C_drewN ?_ _ | refine Kd.C_drew ?_)); (case side2 => exact HC0_0.out); rintro e w8 ⟨rfl, hb⟩; refine ⟨_, rfl, ?_⟩; replace BK339 := ba_ BK339 hb; replace BK340 := ba_ BK340 hb; replace HB := hb_ HB hb; (try clear hb); (try clear hb2); (try clear hk); (try clear hi)))
 (try simp only [Act.put, List.setIfInBounds_toArray, List.set_cons_zero, List.set_cons_succ])
 go_cut [26] (fun v26 wc => ∃ (kq : Nat) (x26_2 : Bool), v26 = .bool x26_2 ∧ Aside0 (impl_WholeOf.j0 kq x26_2 l0_0 = some (r1, r2, r3, r4, r5, r6, r7, r8, r9, r10, r11)) ∧ Aside0 (kq ≤ k) ∧ Aside0 (wc.heap[gb339]? = some (.cells #[(.slice A0_0 l0_0.length c0_0)] 29 (0, 0))) ∧ Aside0 (wc.heap[gb340]? = some (.cells #[.int .i64 0, .int .i64 0, .bool false, .int .i64 0, .int .i64 0, .int .i64 0, .int .i64 0, .int .i64 0, .int .i64 0, .string (⟨#[]⟩ : ByteArray)] 46 (0, 0))) ∧ Aside0 (Below w.heap.size w wc))
 case first =>
  have H := HC3.out; clear HC3; by_cases c9 : t342 = true
  ·subst c9; rw [if_pos rfl] at H; by_cases c10 : t341 > 0
   ·rw [if_pos c10] at H; have c10b0 : decide (0 < t341) = true := decide_eq_true c10; clear c10; (first | rw [c10b0] | (simp only [i64_w, i32_w]; rw [c10b0]) | skip); have H' := Aside0.mk H; clear H; go_wp2; go_meet
    case rel => exact ⟨_, (true), (by first | rfl | (simp; done) | (simp [*]; done)), H', ⟨by first | omega | exact Nat.le_refl _⟩, ⟨by (with_reducible repeat (first | refine blk_drewN ?_ _ | refine blk_drew ?_ | refine blk_alloc ?_ _)); exact BK339.out⟩, ⟨by (with_reducible repeat (first | refine blk_drewN ?_ _ | refine blk_drew ?_ | refine blk_alloc ?_ _)); exact BK340.out⟩, ⟨by repeat (first | (with_reducible first | exact HB.out | apply below_alloc | apply pw_below_drewN | apply below_drew1 | refine below_set ?_ GE339.out | refine below_set ?_ GE340.out) | exact HB.out | (with_reducible exact Below.refl _ _))⟩⟩
   ·rw [if_neg c10] at H; have c10b0 : decide (0 < t341) = false := decide_eq_false c10; clear c10; (first | rw [c10b0] | (simp only [i64_w, i32_w]; rw [c10b0]) | skip); have H' := Aside0.mk H; clear H; have hnb11 := NB339_340.out; have hnc11 := NB340_339.out; have hcz12_0 : w8.cell? ⟨gb339, 0, none⟩ = some (.slice A0_0 l0_0.length c0_0) := (blk_cell BK339.out 0).trans rfl; have hfz12_0 := blk_frozen BK339.out 0; go_wp2; go_meet
    case rel => exact ⟨_, (((l0_0.length : Int) == 0)), (by first | rfl | (simp; done) | (simp [*]; done)), H', ⟨by first | omega | exact Nat.le_refl _⟩, ⟨by (with_reducible repeat (first | refine blk_drewN ?_ _ | refine blk_drew ?_ | refine blk_alloc ?_ _)); exact BK339.out⟩, ⟨by (with_reducible repeat (first | refine blk_drewN ?_ _ | refine blk_drew ?_ | refine blk_alloc ?_ _)); exact BK340.out⟩, ⟨by repeat (first | (with_reducible first | exact HB.out | apply below_alloc | apply pw_below_drewN | apply below_drew1 | refine below_set ?_ GE339.out | refine below_set ?_ GE340.out) | exact HB.out | (with_reducible exact Below.refl _ _))⟩⟩
  ·replace c9 := Bool.eq_false_iff.mpr c9; subst c9; rw [if_neg (show ¬ (false = true) by decide)] at H; have H' := Aside0.mk H; clear H; go_wp2; go_meet
   case rel => exact ⟨_, (true), (by first | rfl | (simp; done) | (simp [*]; done)), H', ⟨by first | omega | exact Nat.le_refl _⟩, ⟨by (with_reducible repeat (first | refine blk_drewN ?_ _ | refine blk_drew ?_ | refine blk_alloc ?_ _)); exact BK339.out⟩, ⟨by (with_reducible repeat (first | refine blk_drewN ?_ _ | refine blk_drew ?_ | refine blk_alloc ?_ _)); exact BK340.out⟩, ⟨by repeat (first | (with_reducible first | exact HB.out | apply below_alloc | apply pw_below_drewN | apply below_drew1 | refine below_set ?_ GE339.out | refine below_set ?_ GE340.out) | exact HB.out | (with_reducible exact Below.refl _ _))⟩⟩
 case rest =>
  clear HC3; try clear c1
  try clear c2
  try clear p2
  try clear c6
  try clear c9
  try clear c10
  try clear c10b0
  try clear c11
  try clear hcz12_0
  try clear hcz7_0
  try clear hfz12_0
  try clear hfz7_0
  obtain ⟨kq, x26_2, rfl, HA, HJ2, BK339, BK340, HB⟩ := hcut; cases kq with
  | zero => exact absurd HA.out (by simp [impl_WholeOf.j0])
  | succ kj2 =>
   have H := HA.out; clear HA; simp only [impl_WholeOf.j0] at H; by_cases c13 : x26_2 = true
   ·subst c13; rw [if_pos rfl] at H; simp only [Option.some.injEq, Prod.mk.injEq] at H; obtain ⟨rfl, rfl, rfl, rfl, rfl, rfl, rfl, rfl, rfl, rfl, rfl⟩ := H; have hnb14 := NB340_339.out; have hnc14 := NB339_340.out; obtain ⟨hcz15_0, hcz15_1, hcz15_2, hcz15_3, hcz15_4, hcz15_5, hcz15_6, hcz15_7, hcz15_8, hcz15_9, hfz15_0, hfz15_1, hfz15_2, hfz15_3, hfz15_4, hfz15_5, hfz15_6, hfz15_7, hfz15_8, hfz15_9⟩ := cf10 BK340.out; go_wp2; refine bodyPost_ret (results_ct rfl _ _ gb340 46 #[.int .i64 0, .int .i64 0, .bool false, .int .i64 0, .int .i64 0, .int .i64 0, .int .i64 0, .int .i64 0, .int .i64 0, .string (⟨#[]⟩ : ByteArray)] (0, 0) _ rfl (by (with_reducible repeat (first | refine blk_drewN ?_ _ | refine blk_drew ?_ | refine blk_alloc ?_ _)); exact bp10 BK340.out) Try.underlying46 rfl (by kernel_rfl)) rfl ?_; exact ⟨by first | rfl | (simp [errW_none, errW_some] <;> rfl) | (simp [*, errW_none, errW_some] <;> rfl), by repeat (first | (with_reducible first | exact HB.out | apply below_alloc | apply pw_below_drewN | apply below_drew1 | refine below_set ?_ GE339.out | refine below_set ?_ GE340.out) | exact HB.out | (with_reducible exact Below.refl _ _))⟩
   ·replace c13 := Bool.eq_false_iff.mpr c13; subst c13; rw [if_neg (show ¬ (false = true) by decide)] at H; by_cases c16 : 0 < (l0_0.length : Int)
    ·rw [if_pos c16] at H; have c16b0 : decide (0 < (l0_0.length : Int)) = true := decide_eq_true c16; have c16b1 : decide (0 < l0_0.length) = true := decide_eq_true (by omega); clear c16; by_cases c17 : 0 ≤ ((rd_T46 l0_0 0).f8)
     ·rw [if_pos c17] at H; have c17b0 := eq_true c17; have c17b1 : decide (0 ≤ ((rd_T46 l0_0 0).f8)) = true := decide_eq_true c17; clear c17; by_cases c18 : ((rd_T46 l0_0 0).f8 : Int).toNat ≤ 281474976710656
      ·rw [if_pos c18] at H; have c18b0 := eq_true c18; have c18b1 : decide (((rd_T46 l0_0 0).f8 : Int).toNat ≤ 281474976710656) = true := decide_eq_true c18; clear c18; obtain ⟨y345, hy345⟩ : ∃ y_ : List Int, y_ = (List.replicate ((rd_T46 l0_0 0).f8 : Int).toNat 0) := ⟨_, rfl⟩
       rw [← hy345] at H
       (try rw [Option.bind_some] at H)
       have Ny345 := Aside0.mk hy345; clear hy345; have H' := Aside0.mk H; clear H; have hnb19 := NB339_340.out; have hnc19 := NB340_339.out; have hcz20_0 : wc.cell? ⟨gb339, 0, none⟩ = some (.slice A0_0 l0_0.length c0_0) := (blk_cell BK339.out 0).trans rfl; have hfz20_0 := blk_frozen BK339.out 0; have p343 : 0 ≤ (0 : Int) := (by omega)
       have q343 : 0 < (l0_0.length : Int) := of_decide_eq_true (by first | (with_reducible assumption) | assumption); obtain ⟨ad343, e343, hx343_0, hx343_1, hx343_2, hx343_3, hx343_4, hx343_5, hx343_6, hx343_7, hx343_8, hx343_9⟩ := at_T46 HR0_0.out 0 p343 q343; cases e343; have qi343 : (0 < l0_0.length) = True := eq_true (by omega); (try rw [show ((0 : Int)).toNat = 0 from rfl] at hx343_0); (try rw [show 0 * 10 = 0 from rfl] at hx343_0); (try rw [Addr.add_zero'] at hx343_0); (try rw [show ((0 : Int)).toNat = 0 from rfl] at hx343_1); (try rw [show 0 * 10 = 0 from rfl] at hx343_1); (try rw [Addr.add_zero'] at hx343_1); (try rw [show ((0 : Int)).toNat = 0 from rfl] at hx343_2); (try rw [show 0 * 10 = 0 from rfl] at hx343_2); (try rw [Addr.add_zero'] at hx343_2); (try rw [show ((0 : Int)).toNat = 0 from rfl] at hx343_3); (try rw [show 0 * 10 = 0 from rfl] at hx343_3); (try rw [Addr.add_zero'] at hx343_3); (try rw [show ((0 : Int)).toNat = 0 from rfl] at hx343_4); (try rw [show 0 * 10 = 0 from rfl] at hx343_4); (try rw [Addr.add_zero'] at hx343_4); (try rw [show ((0 : Int)).toNat = 0 from rfl] at hx343_5); (try rw [show 0 * 10 = 0 from rfl] at hx343_5); (try rw [Addr.add_zero'] at hx343_5); (try rw [show ((0 : Int)).toNat = 0 from rfl] at hx343_6); (try rw [show 0 * 10 = 0 from rfl] at hx343_6); (try rw [Addr.add_zero'] at hx343_6); (try rw [show ((0 : Int)).toNat = 0 from rfl] at hx343_7); (try rw [show 0 * 10 = 0 from rfl] at hx343_7); (try rw [Addr.add_zero'] at hx343_7); (try rw [show ((0 : Int)).toNat = 0 from rfl] at hx343_8); (try rw [show 0 * 10 = 0 from rfl] at hx343_8); (try rw [Addr.add_zero'] at hx343_8); (try rw [show ((0 : Int)).toNat = 0 from rfl] at hx343_9); (try rw [show 0 * 10 = 0 from rfl] at hx343_9); (try rw [Addr.add_zero'] at hx343_9); replace hx343_0 := (HB.out.cell (World.block_lt_of_cell? w _ hx343_0)).trans hx343_0; replace hx343_1 := (HB.out.cell (World.block_lt_of_cell? w _ hx343_1)).trans hx343_1; replace hx343_2 := (HB.out.cell (World.block_lt_of_cell? w _ hx343_2)).trans hx343_2; replace hx343_3 := (HB.out.cell (World.block_lt_of_cell? w _ hx343_3)).trans hx343_3; replace hx343_4 := (HB.out.cell (World.block_lt_of_cell? w _ hx343_4)).trans hx343_4; replace hx343_5 := (HB.out.cell (World.block_lt_of_cell? w _ hx343_5)).trans hx343_5; replace hx343_6 := (HB.out.cell (World.block_lt_of_cell? w _ hx343_6)).trans hx343_6; replace hx343_7 := (HB.out.cell (World.block_lt_of_cell? w _ hx343_7)).trans hx343_7; replace hx343_8 := (HB.out.cell (World.block_lt_of_cell? w _ hx343_8)).trans hx343_8; replace hx343_9 := (HB.out.cell (World.block_lt_of_cell? w _ hx343_9)).trans hx343_9; replace p343 := eq_true p343; replace q343 := eq_true q343; go_wp2_with (first | ((with_reducible refine gate_dst (N := 6) rfl ?_); (try (refine gate_guard (by rfl) ?_; dsimp only)); refine box_event ?hg (N := 6) ?hd (cs := #[.int .i64 0, .int .i64 0, .bool false, .int .i64 0, .int .i64 0, .int .i64 0, .int .i64 0, .int .i64 0, .int .i64 0, .string (⟨#[]⟩ : ByteArray)]) (t := 46) ?hr ?_; (case hd => rfl); (case hg => rfl); (case hr => first | (go_simp; done) | (go_simp; rfl)); intro gb344 hg w21 hbox hb; have BK344 := Aside0.mk (hbox); have GW344 := ge_ HB hg; have GE344 := ge_ HB hg; replace HB := hb_ HB hb; have NB339_344 := nl_ BK339 hg; have NB344_339 := ng_ BK339 hg; replace BK339 := ba_ BK339 hb; have NB340_344 := nl_ BK340 hg; have NB344_340 := ng_ BK340 hg; replace BK340 := ba_ BK340 hb; clear hb hbox hg; have hnb22 := NB344_339.out; have hnc22 := NB339_344.out; have hnb23 := NB344_340.out; have hnc23 := NB340_344.out; obtain ⟨hcz24_0, hcz24_1, hcz24_2, hcz24_3, hcz24_4, hcz24_5, hcz24_6, hcz24_7, hcz24_8, hcz24_9, hfz24_0, hfz24_1, hfz24_2, hfz24_3, hfz24_4, hfz24_5, hfz24_6, hfz24_7, hfz24_8, hfz24_9⟩ := cf10 BK344.out) | ((with_reducible refine gate_dst (N := 34) rfl ?_); (try (refine gate_guard (by rfl) ?_; dsimp only)); refine Kd.R_make (Kd.int .u8) _ 5 rfl (N := 34) rfl 52 _ _ rfl ((rd_T46 l0_0 0).f8) rfl rfl Try.underlying52 (.int .u8 0) 1 info5 rfl (by decide) (by omega) 0 (ok := fun _ => True) (okp := fun _ => True) rfl (fun _ hk => hk) trivial (of_decide_eq_true (by first | (with_reducible assumption) | assumption)) (Nat.le_trans (Nat.mul_le_mul_right _ (of_decide_eq_true (by first | (with_reducible assumption) | assumption) : ((rd_T46 l0_0 0).f8).toNat ≤ 281474976710656)) (by omega)) (Below.refl _ _) (Nat.le_refl _) ?_; intro v346 w25 ho26 hb hg_ hnew_; clear hg_ hnew_; (first | rw [← Ny345.out] at ho26 | (simp only [Int.reduceToNat] at ho26; rw [← Ny345.out] at ho26)); have HO347 := Aside0.mk (Kd.R_lower ho26 (below_size (by repeat (first | (with_reducible first | exact HB.out | apply below_alloc | apply pw_below_drewN | apply below_drew1 | refine below_set ?_ GE339.out | refine below_set ?_ GE340.out | refine below_set ?_ GE344.out) | exact HB.out | (with_reducible exact Below.refl _ _))))); replace BK339 := Aside0.mk (blk_below (g := gb339) (o := .cells #[.slice (some ad343) l0_0.length c0_0] 29 (0, 0)) (by (with_reducible repeat (first | refine blk_drewN ?_ _ | refine blk_drew ?_ | refine blk_alloc ?_ _)); (iterate 10 refine blk_far ?_ NB339_344.out _); (with_reducible repeat (first | refine blk_drewN ?_ _ | refine blk_drew ?_ | refine blk_alloc ?_ _)); exact BK339.out) hb); replace BK340 := Aside0.mk (blk_below (g := gb340) (o := .cells #[.int .i64 0, .int .i64 0, .bool false, .int .i64 0, .int .i64 0, .int .i64 0, .int .i64 0, .int .i64 0, .int .i64 0, .string (⟨#[]⟩ : ByteArray)] 46 (0, 0)) (by (with_reducible repeat (first | refine blk_drewN ?_ _ | refine blk_drew ?_ | refine blk_alloc ?_ _)); (iterate 10 refine blk_far ?_ NB340_344.out _); (with_reducible repeat (first | refine blk_drewN ?_ _ | refine blk_drew ?_ | refine blk_alloc ?_ _)); exact BK340.out) hb); replace BK344 := Aside0.mk (blk_below (g := gb344) (o := .cells #[.int .i64 ((rd_T46 l0_0 0).f0), .int .i64 ((rd_T46 l0_0 0).f1), .bool ((rd_T46 l0_0 0).f2), .int .i64 ((rd_T46 l0_0 0).f3), .int .i64 ((rd_T46 l0_0 0).f4), .int .i64 ((rd_T46 l0_0 0).f5), .int .i64 ((rd_T46 l0_0 0).f6), .int .i64 ((rd_T46 l0_0 0).f7), .int .i64 ((rd_T46 l0_0 0).f8), .string ((rd_T46 l0_0 0).f9)] 46 (0, 0)) (by (with_reducible repeat (first | refine blk_drewN ?_ _ | refine blk_drew ?_ | refine blk_alloc ?_ _)); exact bp10 BK344.out) hb); replace HB := hb_ HB hb; clear hb ho26; have hcz27_0 : w25.cell? ⟨gb339, 0, none⟩ = some (.slice (some ad343) l0_0.length c0_0) := (blk_cell BK339.out 0).trans rfl; have hfz27_0 := blk_frozen BK339.out 0))
       go_loopg [38] kj2 (fun kq v38 w' => ∃ (x7_2 : List Int) (x38_2 : Int) (x345006_2 : Int), v38 = .int .i64 x38_2 ∧ Aside0 (impl_WholeOf.l0 kq x7_2 l0_0 (l0_0.length : Int) x38_2 ((rd_T46 l0_0 0).f0) ((rd_T46 l0_0 0).f1) ((rd_T46 l0_0 0).f2) ((rd_T46 l0_0 0).f3) ((rd_T46 l0_0 0).f4) ((rd_T46 l0_0 0).f5) x345006_2 ((rd_T46 l0_0 0).f7) ((rd_T46 l0_0 0).f8) ((rd_T46 l0_0 0).f9) = some (r1, r2, r3, r4, r5, r6, r7, r8, r9, r10, r11)) ∧ Aside0 (kq ≤ kj2) ∧ Aside0 (Kd.R (Kd.int .u8) 5 w' w.heap.size (fun _ => True) v346 x7_2) ∧ Aside0 (w'.heap[gb339]? = some (.cells #[(.slice (some ad343) l0_0.length c0_0)] 29 (0, 0))) ∧ Aside0 (w'.heap[gb340]? = some (.cells #[.int .i64 0, .int .i64 0, .bool false, .int .i64 0, .int .i64 0, .int .i64 0, .int .i64 0, .int .i64 0, .int .i64 0, .string (⟨#[]⟩ : ByteArray)] 46 (0, 0))) ∧ Aside0 (w'.heap[gb344]? = some (.cells #[.int .i64 ((rd_T46 l0_0 0).f0), .int .i64 ((rd_T46 l0_0 0).f1), .bool ((rd_T46 l0_0 0).f2), .int .i64 ((rd_T46 l0_0 0).f3), .int .i64 ((rd_T46 l0_0 0).f4), .int .i64 ((rd_T46 l0_0 0).f5), .int .i64 x345006_2, .int .i64 ((rd_T46 l0_0 0).f7), .int .i64 ((rd_T46 l0_0 0).f8), .string ((rd_T46 l0_0 0).f9)] 46 (0, 0))) ∧ Aside0 (Below w.heap.size w w'))
       case atStart => exact ⟨(y345), (0), ((rd_T46 l0_0 0).f6), (by first | rfl | (simp; done) | (simp [*]; done)), H', ⟨Nat.le_refl _⟩, ⟨rq_⟩, ⟨by (with_reducible repeat (first | refine blk_drewN ?_ _ | refine blk_drew ?_ | refine blk_alloc ?_ _)); exact BK339.out⟩, ⟨by (with_reducible repeat (first | refine blk_drewN ?_ _ | refine blk_drew ?_ | refine blk_alloc ?_ _)); exact BK340.out⟩, ⟨by (with_reducible repeat (first | refine blk_drewN ?_ _ | refine blk_drew ?_ | refine blk_alloc ?_ _)); exact BK344.out⟩, ⟨by repeat (first | (with_reducible first | exact HB.out | apply below_alloc | apply pw_below_drewN | apply below_drew1 | refine below_set ?_ GE339.out | refine below_set ?_ GE340.out | refine below_set ?_ GE344.out) | exact HB.out | (with_reducible exact Below.refl _ _))⟩⟩
       case round =>
        clear H'; try clear c1
        try clear c2
        try clear p2
        try clear p3
        try clear q3
        try clear hx3
        try clear qi3
        try clear c6
        try clear c9
        try clear c10
        try clear c10b0
        try clear c11
        try clear c13
        try clear c14
        try clear c16
        try clear c16b0
        try clear c16b1
        try clear c17
        try clear c17b0
        try clear c17b1
        try clear c18
        try clear c18b0
        try clear c18b1
        try clear c19
        try clear c22
        try clear c23
        try clear hcz12_0
        try clear hcz15_0
        try clear hcz15_1
        try clear hcz15_2
        try clear hcz15_3
        try clear hcz15_4
        try clear hcz15_5
        try clear hcz15_6
        try clear hcz15_7
        try clear hcz15_8
        try clear hcz15_9
        try clear hcz20_0
        try clear hcz24_0
        try clear hcz24_1
        try clear hcz24_2
        try clear hcz24_3
        try clear hcz24_4
        try clear hcz24_5
        try clear hcz24_6
        try clear hcz24_7
        try clear hcz24_8
        try clear hcz24_9
        try clear hcz27_0
        try clear hcz7_0
        try clear hfz12_0
        try clear hfz15_0
        try clear hfz15_1
        try clear hfz15_2
        try clear hfz15_3
        try clear hfz15_4
        try clear hfz15_5
        try clear hfz15_6
        try clear hfz15_7
        try clear hfz15_8
        try clear hfz15_9
        try clear hfz20_0
        try clear hfz24_0
        try clear hfz24_1
        try clear hfz24_2
        try clear hfz24_3
        try clear hfz24_4
        try clear hfz24_5
        try clear hfz24_6
        try clear hfz24_7
        try clear hfz24_8
        try clear hfz24_9
        try clear hfz27_0
        try clear hfz7_0
        try clear hx343_0
        try clear hx343_1
        try clear hx343_2
        try clear hx343_3
        try clear hx343_4
        try clear hx343_5
        try clear hx343_6
        try clear hx343_7
        try clear hx343_8
        try clear hx343_9
        try clear p2
        try clear p343
        try clear q343
        obtain ⟨x7_2, x38_2, x345006_2, rfl, HA, HK2, HO_7, BK339, BK340, BK344, HB⟩ := hrel; cases gk with
        | zero => exact absurd HA.out (by simp [impl_WholeOf.l0])
        | succ k2 =>
         have H := HA.out; clear HA; simp only [impl_WholeOf.l0] at H; by_cases c28 : x38_2 < (l0_0.length : Int)
         ·rw [if_pos c28] at H; have c28b0 : decide (x38_2 < (l0_0.length : Int)) = true := decide_eq_true c28; clear c28; by_cases c29 : 0 ≤ x38_2
          ·rw [if_pos c29] at H; have c29b0 : decide (0 ≤ x38_2) = true := decide_eq_true c29; clear c29; by_cases c30 : x38_2 < (l0_0.length : Int)
           ·rw [if_pos c30] at H; have c30b0 : decide (x38_2 < (l0_0.length : Int)) = true := decide_eq_true c30; clear c30; by_cases c31 : 0 ≤ ((rd_T46 l0_0 x38_2).f7)
            ·rw [if_pos c31] at H; have c31b0 : decide (0 ≤ ((rd_T46 l0_0 x38_2).f7)) = true := decide_eq_true c31; clear c31; by_cases c32 : ((rd_T46 l0_0 x38_2).f7) < (x7_2.length : Int)
             ·rw [if_pos c32] at H; have c32b0 : decide (((rd_T46 l0_0 x38_2).f7) < (x7_2.length : Int)) = true := decide_eq_true c32; clear c32; have cw : (((rd_T46 l0_0 x38_2).f7) : Int).toNat + ((rd_T46 l0_0 x38_2).f9).size ≤ x7_2.length := Classical.byContradiction fun hn => by rw [if_neg hn] at H; exact absurd H (by simp)
              rw [if_pos cw] at H; obtain ⟨y350, hy350⟩ : ∃ y_ : List Int, y_ = (wput x7_2 (((rd_T46 l0_0 x38_2).f7) : Int).toNat ((rd_T46 l0_0 x38_2).f9)) := ⟨_, rfl⟩
              rw [← hy350] at H
              (try rw [Option.bind_some] at H)
              have Ny350 := Aside0.mk hy350; clear hy350; obtain ⟨ji34, hji34⟩ : ∃ j_ : Int, (mn x345006_2 ((rd_T46 l0_0 x38_2).f6)) = j_ := ⟨_, rfl⟩
              replace H : (impl_WholeOf.l0 k2 y350 l0_0 (l0_0.length : Int) (wrap64 (x38_2 + 1)) ((rd_T46 l0_0 0).f0) ((rd_T46 l0_0 0).f1) ((rd_T46 l0_0 0).f2) ((rd_T46 l0_0 0).f3) ((rd_T46 l0_0 0).f4) ((rd_T46 l0_0 0).f5) ji34 ((rd_T46 l0_0 0).f7) ((rd_T46 l0_0 0).f8) ((rd_T46 l0_0 0).f9)) = some (r1, r2, r3, r4, r5, r6, r7, r8, r9, r10, r11) := by first | (rw [hji34] at H; exact H) | (simp only [hji34] at H ⊢; exact H)
              have hji34_ : (if ((rd_T46 l0_0 x38_2).f6) < x345006_2 then ((rd_T46 l0_0 x38_2).f6) else x345006_2) = ji34 := hji34; have H' := Aside0.mk H; clear H; have p348 : 0 ≤ (x38_2 : Int) := of_decide_eq_true (by first | (with_reducible assumption) | assumption); have q348 : x38_2 < (l0_0.length : Int) := of_decide_eq_true (by first | (with_reducible assumption) | assumption); obtain ⟨ad348, e348, hx348_0, hx348_1, hx348_2, hx348_3, hx348_4, hx348_5, hx348_6, hx348_7, hx348_8, hx348_9⟩ := at_T46 HR0_0.out x38_2 p348 q348; obtain rfl : ad343 = ad348 := (by injection e348)
              replace hx348_0 := (HB.out.cell (World.block_lt_of_cell? w _ hx348_0)).trans hx348_0; replace hx348_1 := (HB.out.cell (World.block_lt_of_cell? w _ hx348_1)).trans hx348_1; replace hx348_2 := (HB.out.cell (World.block_lt_of_cell? w _ hx348_2)).trans hx348_2; replace hx348_3 := (HB.out.cell (World.block_lt_of_cell? w _ hx348_3)).trans hx348_3; replace hx348_4 := (HB.out.cell (World.block_lt_of_cell? w _ hx348_4)).trans hx348_4; replace hx348_5 := (HB.out.cell (World.block_lt_of_cell? w _ hx348_5)).trans hx348_5; replace hx348_6 := (HB.out.cell (World.block_lt_of_cell? w _ hx348_6)).trans hx348_6; replace hx348_7 := (HB.out.cell (World.block_lt_of_cell? w _ hx348_7)).trans hx348_7; replace hx348_8 := (HB.out.cell (World.block_lt_of_cell? w _ hx348_8)).trans hx348_8; replace hx348_9 := (HB.out.cell (World.block_lt_of_cell? w _ hx348_9)).trans hx348_9; replace p348 := eq_true p348; replace q348 := eq_true q348; go_wp2_with (first | ((with_reducible refine gate_dst (N := 9) rfl ?_); (try (refine gate_guard (by rfl) ?_; dsimp only)); refine box_event ?hg (N := 9) ?hd (cs := #[.int .i64 0, .int .i64 0, .bool false, .int .i64 0, .int .i64 0, .int .i64 0, .int .i64 0, .int .i64 0, .int .i64 0, .string (⟨#[]⟩ : ByteArray)]) (t := 46) ?hr ?_; (case hd => rfl); (case hg => rfl); (case hr => first | (go_simp; done) | (go_simp; rfl)); intro gb349 hg w35 hbox hb; replace HO_7 := ra_ HO_7 hb; have BK349 := Aside0.mk (hbox); have GW349 := ge_ HB hg; have GE349 := ge_ HB hg; replace HB := hb_ HB hb; have NB339_349 := nl_ BK339 hg; have NB349_339 := ng_ BK339 hg; replace BK339 := ba_ BK339 hb; have NB340_349 := nl_ BK340 hg; have NB349_340 := ng_ BK340 hg; replace BK340 := ba_ BK340 hb; have NB344_349 := nl_ BK344 hg; have NB349_344 := ng_ BK344 hg; replace BK344 := ba_ BK344 hb; clear hb hbox hg; have hnb36 := NB349_339.out; have hnc36 := NB339_349.out; have hnb37 := NB349_340.out; have hnc37 := NB340_349.out; have hnb38 := NB349_344.out; have hnc38 := NB344_349.out; obtain ⟨hcz39_0, hcz39_1, hcz39_2, hcz39_3, hcz39_4, hcz39_5, hcz39_6, hcz39_7, hcz39_8, hcz39_9, hfz39_0, hfz39_1, hfz39_2, hfz39_3, hfz39_4, hfz39_5, hfz39_6, hfz39_7, hfz39_8, hfz39_9⟩ := cf10 BK349.out) | ((with_reducible refine gate_store (t := 46) (p := 9) rfl ?_); refine store_event (t := 46) (p := 9) (v := ?vo_w40) (w1 := ((((((((((w35.setCell ⟨gb349, 0, none⟩ (.int .i64 ((rd_T46 l0_0 x38_2).f0))).setCell ⟨gb349, 1, none⟩ (.int .i64 ((rd_T46 l0_0 x38_2).f1))).setCell ⟨gb349, 2, none⟩ (.bool ((rd_T46 l0_0 x38_2).f2))).setCell ⟨gb349, 3, none⟩ (.int .i64 ((rd_T46 l0_0 x38_2).f3))).setCell ⟨gb349, 4, none⟩ (.int .i64 ((rd_T46 l0_0 x38_2).f4))).setCell ⟨gb349, 5, none⟩ (.int .i64 ((rd_T46 l0_0 x38_2).f5))).setCell ⟨gb349, 6, none⟩ (.int .i64 ((rd_T46 l0_0 x38_2).f6))).setCell ⟨gb349, 7, none⟩ (.int .i64 ((rd_T46 l0_0 x38_2).f7))).setCell ⟨gb349, 8, none⟩ (.int .i64 ((rd_T46 l0_0 x38_2).f8))).setCell ⟨gb349, 9, none⟩ (.string ((rd_T46 l0_0 x38_2).f9)))) ?hg ?ho ?hn ?hr ?_; (case ho => rfl); (case hg => rfl); (case hn => rfl); (case hr => first | (go_simp; done) | (go_simp; rfl)); intro w40 hw; replace HO_7 : Aside0 (Kd.R (Kd.int .u8) 5 w40 w.heap.size (fun _ => True) v346 x7_2) := ⟨(by rw [hw]; exact (by (with_reducible repeat (first | apply Kd.R_alloc | apply Kd.R_drewN | apply Kd.R_drew)); exact Kd.R_mono (Kd.R_far (p := ⟨gb349, 9, none⟩) (Kd.R_far (p := ⟨gb349, 8, none⟩) (Kd.R_far (p := ⟨gb349, 7, none⟩) (Kd.R_far (p := ⟨gb349, 6, none⟩) (Kd.R_far (p := ⟨gb349, 5, none⟩) (Kd.R_far (p := ⟨gb349, 4, none⟩) (Kd.R_far (p := ⟨gb349, 3, none⟩) (Kd.R_far (p := ⟨gb349, 2, none⟩) (Kd.R_far (p := ⟨gb349, 1, none⟩) (Kd.R_far (p := ⟨gb349, 0, none⟩) (Kd.R_types HO_7.out BK349.out (by decide)) (fun _ hk => hk.2) (.int .i64 ((rd_T46 l0_0 x38_2).f0))) (fun _ hk => hk.2) (.int .i64 ((rd_T46 l0_0 x38_2).f1))) (fun _ hk => hk.2) (.bool ((rd_T46 l0_0 x38_2).f2))) (fun _ hk => hk.2) (.int .i64 ((rd_T46 l0_0 x38_2).f3))) (fun _ hk => hk.2) (.int .i64 ((rd_T46 l0_0 x38_2).f4))) (fun _ hk => hk.2) (.int .i64 ((rd_T46 l0_0 x38_2).f5))) (fun _ hk => hk.2) (.int .i64 ((rd_T46 l0_0 x38_2).f6))) (fun _ hk => hk.2) (.int .i64 ((rd_T46 l0_0 x38_2).f7))) (fun _ hk => hk.2) (.int .i64 ((rd_T46 l0_0 x38_2).f8))) (fun _ hk => hk.2) (.string ((rd_T46 l0_0 x38_2).f9))) (fun _ hk => trivial)))⟩; replace BK339 : Aside0 (w40.heap[gb339]? = some (.cells #[.slice (some ad343) l0_0.length c0_0] 29 (0, 0))) := ⟨(by rw [hw]; exact (by (with_reducible repeat (first | refine blk_drewN ?_ _ | refine blk_drew ?_ | refine blk_alloc ?_ _)); (iterate 10 refine blk_far ?_ NB339_349.out _); (with_reducible repeat (first | refine blk_drewN ?_ _ | refine blk_drew ?_ | refine blk_alloc ?_ _)); exact BK339.out))⟩; replace BK340 : Aside0 (w40.heap[gb340]? = some (.cells #[.int .i64 0, .int .i64 0, .bool false, .int .i64 0, .int .i64 0, .int .i64 0, .int .i64 0, .int .i64 0, .int .i64 0, .string (⟨#[]⟩ : ByteArray)] 46 (0, 0))) := ⟨(by rw [hw]; exact (by (with_reducible repeat (first | refine blk_drewN ?_ _ | refine blk_drew ?_ | refine blk_alloc ?_ _)); (iterate 10 refine blk_far ?_ NB340_349.out _); (with_reducible repeat (first | refine blk_drewN ?_ _ | refine blk_drew ?_ | refine blk_alloc ?_ _)); exact BK340.out))⟩; replace BK344 : Aside0 (w40.heap[gb344]? = some (.cells #[.int .i64 ((rd_T46 l0_0 0).f0), .int .i64 ((rd_T46 l0_0 0).f1), .bool ((rd_T46 l0_0 0).f2), .int .i64 ((rd_T46 l0_0 0).f3), .int .i64 ((rd_T46 l0_0 0).f4), .int .i64 ((rd_T46 l0_0 0).f5), .int .i64 x345006_2, .int .i64 ((rd_T46 l0_0 0).f7), .int .i64 ((rd_T46 l0_0 0).f8), .string ((rd_T46 l0_0 0).f9)] 46 (0, 0))) := ⟨(by rw [hw]; exact (by (with_reducible repeat (first | refine blk_drewN ?_ _ | refine blk_drew ?_ | refine blk_alloc ?_ _)); (iterate 10 refine blk_far ?_ NB344_349.out _); (with_reducible repeat (first | refine blk_drewN ?_ _ | refine blk_drew ?_ | refine blk_alloc ?_ _)); exact BK344.out))⟩; replace BK349 : Aside0 (w40.heap[gb349]? = some (.cells #[.int .i64 ((rd_T46 l0_0 x38_2).f0), .int .i64 ((rd_T46 l0_0 x38_2).f1), .bool ((rd_T46 l0_0 x38_2).f2), .int .i64 ((rd_T46 l0_0 x38_2).f3), .int .i64 ((rd_T46 l0_0 x38_2).f4), .int .i64 ((rd_T46 l0_0 x38_2).f5), .int .i64 ((rd_T46 l0_0 x38_2).f6), .int .i64 ((rd_T46 l0_0 x38_2).f7), .int .i64 ((rd_T46 l0_0 x38_2).f8), .string ((rd_T46 l0_0 x38_2).f9)] 46 (0, 0))) := ⟨(by rw [hw]; exact (by (with_reducible repeat (first | refine blk_drewN ?_ _ | refine blk_drew ?_ | refine blk_alloc ?_ _)); exact bp10 BK349.out))⟩; replace HB : Aside0 (Below w.heap.size w w40) := ⟨(by rw [hw]; exact (by repeat (first | (with_reducible first | exact HB.out | apply below_alloc | apply pw_below_drewN | apply below_drew1 | refine below_set ?_ GE339.out | refine below_set ?_ GE340.out | refine below_set ?_ GE344.out | refine below_set ?_ GE349.out) | exact HB.out | (with_reducible exact Below.refl _ _))))⟩; clear hw; obtain ⟨hcz41_0, hcz41_1, hcz41_2, hcz41_3, hcz41_4, hcz41_5, hcz41_6, hcz41_7, hcz41_8, hcz41_9, hfz41_0, hfz41_1, hfz41_2, hfz41_3, hfz41_4, hfz41_5, hfz41_6, hfz41_7, hfz41_8, hfz41_9⟩ := cf10 BK349.out; have p33 : 0 ≤ (((rd_T46 l0_0 x38_2).f7) : Int) := of_decide_eq_true (by first | (with_reducible assumption) | assumption); have q33 : (((rd_T46 l0_0 x38_2).f7) : Int) < ((x7_2.length : Int) : Int) := of_decide_eq_true (by first | (with_reducible assumption) | assumption); obtain ⟨go33, co33, eo33, gb33, gl33, cl33, HG33⟩ := Kd.R_form HO_7.out (by omega); (first | cases eo33 | (injection eo33 with ea_ en_ ec_; (first | subst ea_ | (injection ea_ with ea_; subst ea_)); subst ec_; clear en_)); have GB33 := Aside0.mk gb33; have GG33 := Aside0.mk HG33; clear gb33 gl33 HG33))
              replace HO_7 := Aside0.mk (Kd.R_drew HO_7.out); replace BK339 := Aside0.mk (blk_drew BK339.out); replace BK340 := Aside0.mk (blk_drew BK340.out); replace BK344 := Aside0.mk (blk_drew BK344.out); replace BK349 := Aside0.mk (blk_drew BK349.out); replace HB := Aside0.mk (below_drew1 HB.out); try clear hcz39_0
              try clear hcz39_1
              try clear hcz39_2
              try clear hcz39_3
              try clear hcz39_4
              try clear hcz39_5
              try clear hcz39_6
              try clear hcz39_7
              try clear hcz39_8
              try clear hcz39_9
              try clear hcz41_0
              try clear hcz41_1
              try clear hcz41_2
              try clear hcz41_3
              try clear hcz41_4
              try clear hcz41_5
              try clear hcz41_6
              try clear hcz41_7
              try clear hcz41_8
              try clear hcz41_9
              try clear hfz39_0
              try clear hfz39_1
              try clear hfz39_2
              try clear hfz39_3
              try clear hfz39_4
              try clear hfz39_5
              try clear hfz39_6
              try clear hfz39_7
              try clear hfz39_8
              try clear hfz39_9
              try clear hfz41_0
              try clear hfz41_1
              try clear hfz41_2
              try clear hfz41_3
              try clear hfz41_4
              try clear hfz41_5
              try clear hfz41_6
              try clear hfz41_7
              try clear hfz41_8
              try clear hfz41_9
              refine start_ (n := 7) (S := fun w' => w'.cell? ⟨gb349, 7, none⟩ = some (.int .i64 ((rd_T46 l0_0 x38_2).f7)) ∧ w'.cell? ⟨gb349, 9, none⟩ = some (.string ((rd_T46 l0_0 x38_2).f9))) (ds := []) #[false, false, false, false, false, false, false] (by kernel_rfl) rfl rfl ⟨cellAtW BK349.out 7 rfl, cellAtW BK349.out 9 rfl⟩ (fun hHeld => ?_); generalize w40.drew = w40d at HO_7 BK339 BK340 BK344 BK349 HB hHeld ⊢; obtain ⟨_, _, _, hcap_, _⟩ := who_open HO_7.out; have hsl_ := fun W => who_slice W go33 x7_2.length co33 ((rd_T46 l0_0 x38_2).f7) p33 q33 hcap_
              obtain ⟨w43, hcp_, hR_, hg⟩ := who_copy HO_7.out (((rd_T46 l0_0 x38_2).f7) : Int).toNat ((rd_T46 l0_0 x38_2).f9) cw; refine pure_ (i := 0) (N := some 42) (v := ?_) (a' := ?_) #[true, false, false, false, false, false, false] rfl rfl (by kernel_rfl) (fun _ _ _ h => h) (Or.inl ⟨by rfl, ?_⟩) ?_ ?_; rotate_left
              ·intro w'; go_simp; with_reducible rfl
              rotate_left
              ·simp only [Act.put, List.setIfInBounds_toArray, List.set_cons_zero, List.set_cons_succ, i64_w, i32_w]; rfl
              refine pure_ (i := 1) (N := some 43) (v := ?_) (a' := ?_) #[true, true, false, false, false, false, false] rfl rfl (by kernel_rfl) (fun _ _ _ h => h) (Or.inl ⟨by rfl, ?_⟩) ?_ ?_; rotate_left
              ·intro w'; go_simp; with_reducible rfl
              rotate_left
              ·simp only [Act.put, List.setIfInBounds_toArray, List.set_cons_zero, List.set_cons_succ, i64_w, i32_w]; rfl
              refine take_ (i := 2) (N := some 44) (v := ?_) (a' := ?_) #[true, true, true, false, false, false, false] rfl rfl (by kernel_rfl) (fun _ _ _ h => h) (Or.inl ⟨by rfl, ?_⟩) hHeld ?_ ?_; rotate_left
              ·rintro w' ⟨s0, s1⟩
               go_simp; with_reducible rfl
              rotate_left
              ·simp only [Act.put, List.setIfInBounds_toArray, List.set_cons_zero, List.set_cons_succ, i64_w, i32_w]; rfl
              refine pure_ (i := 3) (N := some 45) (v := ?_) (a' := ?_) #[true, true, true, true, false, false, false] rfl rfl (by kernel_rfl) (fun _ _ _ h => h) (Or.inl ⟨by rfl, ?_⟩) ?_ ?_; rotate_left
              ·intro w'; go_simp; with_reducible rfl
              rotate_left
              ·simp only [Act.put, List.setIfInBounds_toArray, List.set_cons_zero, List.set_cons_succ, i64_w, i32_w]; rfl
              refine pure_ (i := 4) (N := some 46) (v := ?_) (a' := ?_) #[true, true, true, true, true, false, false] rfl rfl (by kernel_rfl) (fun _ _ _ h => h) (Or.inl ⟨by rfl, ?_⟩) ?_ ?_; rotate_left
              ·intro w'; go_simp; with_reducible rfl
              rotate_left
              ·simp only [Act.put, List.setIfInBounds_toArray, List.set_cons_zero, List.set_cons_succ, i64_w, i32_w]; rfl
              refine take_ (i := 5) (N := some 47) (v := ?_) (a' := ?_) #[true, true, true, true, true, true, false] rfl rfl (by kernel_rfl) (fun _ _ _ h => h) (Or.inl ⟨by rfl, ?_⟩) hHeld ?_ ?_; rotate_left
              ·rintro w' ⟨s0, s1⟩
               go_simp; with_reducible rfl
              rotate_left
              ·simp only [Act.put, List.setIfInBounds_toArray, List.set_cons_zero, List.set_cons_succ, i64_w, i32_w]; rfl
              refine one_ (i := 6) (N := some 48) #[true, true, true, true, true, true, true] rfl rfl (by kernel_rfl) (by decide) (fun K hK => ?_); refine value_ (v := goInt ((rd_T46 l0_0 x38_2).f9).size) (w1 := w43) ?_ ?_ ?_ ?_
              ·kernel_rfl
              ·rfl
              ·go_simp
              have hp_ : Kd.R (Kd.int .u8) 5 w43 w.heap.size (fun _ => True) (.slice (some ⟨go33, 0, none⟩) x7_2.length co33) y350 := by rw [Ny350.out]; rw [wput_len _ _ _ cw] at hR_; exact hR_
              clear hR_ hcp_ hsl_; replace BK339 := bg_ BK339 hg (Kd.R_ne HO_7.out BK339.out (by decide)); replace BK340 := bg_ BK340 hg (Kd.R_ne HO_7.out BK340.out (by decide)); replace BK344 := bg_ BK344 hg (Kd.R_ne HO_7.out BK344.out (by decide)); replace BK349 := bg_ BK349 hg (Kd.R_ne HO_7.out BK349.out (by decide)); replace HO_7 := Aside0.mk (hp_); replace HB := Aside0.mk (Below.grown HB.out hg (below_size HB.out) (fun k_ hk_ => by cases hk_; exact GB33.out)); clear hg hp_; refine hK.out _ _ ⟨cellAtW BK349.out 7 rfl, cellAtW BK349.out 9 rfl⟩ (fun hHeld => ?_); clear hK K hHeld; refine done_ (by kernel_rfl) ?_; have hnb44 := NB344_339.out; have hnc44 := NB339_344.out; have hnb45 := NB344_340.out; have hnc45 := NB340_344.out; obtain ⟨hcz46_0, hcz46_1, hcz46_2, hcz46_3, hcz46_4, hcz46_5, hcz46_6, hcz46_7, hcz46_8, hcz46_9, hfz46_0, hfz46_1, hfz46_2, hfz46_3, hfz46_4, hfz46_5, hfz46_6, hfz46_7, hfz46_8, hfz46_9⟩ := cf10 BK344.out; obtain ⟨hcz47_0, hcz47_1, hcz47_2, hcz47_3, hcz47_4, hcz47_5, hcz47_6, hcz47_7, hcz47_8, hcz47_9, hfz47_0, hfz47_1, hfz47_2, hfz47_3, hfz47_4, hfz47_5, hfz47_6, hfz47_7, hfz47_8, hfz47_9⟩ := cf10 BK349.out; go_wp2; go_roundg k2
              case measure => have := HJ2.out; have := HK2.out; omega
              case rel => exact ⟨(y350), (wrap64 (x38_2 + 1)), (ji34), (by first | rfl | (simp; done) | (simp [*]; done)), H', ⟨by have := HJ2.out; have := HK2.out; omega⟩, ⟨by (with_reducible repeat (first | apply Kd.R_alloc | apply Kd.R_drewN | apply Kd.R_drew)); exact Kd.R_mono (Kd.R_far (p := ⟨gb344, 6, none⟩) (Kd.R_types HO_7.out BK344.out (by decide)) (fun _ hk => hk.2) (.int .i64 ji34)) (fun _ hk => trivial)⟩, ⟨by (with_reducible repeat (first | refine blk_drewN ?_ _ | refine blk_drew ?_ | refine blk_alloc ?_ _)); refine blk_far ?_ NB339_344.out _; (with_reducible repeat (first | refine blk_drewN ?_ _ | refine blk_drew ?_ | refine blk_alloc ?_ _)); exact BK339.out⟩, ⟨by (with_reducible repeat (first | refine blk_drewN ?_ _ | refine blk_drew ?_ | refine blk_alloc ?_ _)); refine blk_far ?_ NB340_344.out _; (with_reducible repeat (first | refine blk_drewN ?_ _ | refine blk_drew ?_ | refine blk_alloc ?_ _)); exact BK340.out⟩, ⟨by (with_reducible repeat (first | refine blk_drewN ?_ _ | refine blk_drew ?_ | refine blk_alloc ?_ _)); refine blk_put (cs := #[.int .i64 ((rd_T46 l0_0 0).f0), .int .i64 ((rd_T46 l0_0 0).f1), .bool ((rd_T46 l0_0 0).f2), .int .i64 ((rd_T46 l0_0 0).f3), .int .i64 ((rd_T46 l0_0 0).f4), .int .i64 ((rd_T46 l0_0 0).f5), .int .i64 x345006_2, .int .i64 ((rd_T46 l0_0 0).f7), .int .i64 ((rd_T46 l0_0 0).f8), .string ((rd_T46 l0_0 0).f9)]) ?_ 6 _ rfl; (with_reducible repeat (first | refine blk_drewN ?_ _ | refine blk_drew ?_ | refine blk_alloc ?_ _)); exact BK344.out⟩, ⟨by repeat (first | (with_reducible first | exact HB.out | apply below_alloc | apply pw_below_drewN | apply below_drew1 | refine below_set ?_ GE339.out | refine below_set ?_ GE340.out | refine below_set ?_ GE344.out | refine below_set ?_ GE349.out) | exact HB.out | (with_reducible exact Below.refl _ _))⟩⟩
             ·rw [if_neg c32] at H; exact absurd H (by simp)
            ·rw [if_neg c31] at H; exact absurd H (by simp)
           ·rw [if_neg c30] at H; exact absurd H (by simp)
          ·rw [if_neg c29] at H; exact absurd H (by simp)
         ·rw [if_neg c28] at H; have c28b0 : decide (x38_2 < (l0_0.length : Int)) = false := decide_eq_false c28; clear c28; simp only [Option.some.injEq, Prod.mk.injEq] at H; obtain ⟨rfl, rfl, rfl, rfl, rfl, rfl, rfl, rfl, rfl, rfl, rfl⟩ := H; try go_wp2
          replace HO_7 := Aside0.mk (Kd.R_drew HO_7.out); replace BK339 := Aside0.mk (blk_drew BK339.out); replace BK340 := Aside0.mk (blk_drew BK340.out); replace BK344 := Aside0.mk (blk_drew BK344.out); replace HB := Aside0.mk (below_drew1 HB.out); have hcv49 := own_string (P := Try.prog) Try.underlying52 Try.underlying5 Try.underlying9 (Kd.own_of_R HO_7.out); refine start_ (n := 8) (S := fun w' => Sem.run Try.prog (convert 52 9 v346) w' = .ok (.string (strOfNums x7_2)) w') (ds := []) #[false, false, false, false, false, false, false, false] (by kernel_rfl) rfl rfl hcv49 (fun hHeld => ?_); refine with_tabW impl_WholeOf.tab12 impl_WholeOf.bits12 (fun HT_ HW_ => ?_); clear hcv49; generalize wr.drew = w48 at HO_7 BK339 BK340 BK344 HB hHeld ⊢; refine pure_ (i := 0) (N := some 56) (v := ?_) (a' := ?_) #[true, false, false, false, false, false, false, false] rfl rfl (any_of HT_.out (by kernel_rfl)) (fun _ _ _ h => h) (Or.inl ⟨by rfl, ?_⟩) ?_ ?_; rotate_left
          ·intro w'; go_simp; with_reducible rfl
          rotate_left
          ·simp only [Act.put, List.setIfInBounds_toArray, List.set_cons_zero, List.set_cons_succ, i64_w, i32_w]; rfl
          refine take_ (i := 1) (N := some 57) (v := ?_) (a' := ?_) #[true, true, false, false, false, false, false, false] rfl rfl (take_ofW HT_.out HW_.out (by kernel_rfl)) (fun _ _ _ h => h) (Or.inl ⟨by rfl, ?_⟩) hHeld ?_ ?_; rotate_left
          ·rintro w' s0
           go_simp; with_reducible rfl
          rotate_left
          ·simp only [Act.put, List.setIfInBounds_toArray, List.set_cons_zero, List.set_cons_succ, i64_w, i32_w]; rfl
          refine pure_ (i := 2) (N := some 58) (v := ?_) (a' := ?_) #[true, true, true, false, false, false, false, false] rfl rfl (any_of HT_.out (by kernel_rfl)) (fun _ _ _ h => h) (Or.inl ⟨by rfl, ?_⟩) ?_ ?_; rotate_left
          ·intro w'; go_simp; with_reducible rfl
          rotate_left
          ·simp only [Act.put, List.setIfInBounds_toArray, List.set_cons_zero, List.set_cons_succ, i64_w, i32_w]; rfl
          refine one_ (i := 3) (N := none) #[true, true, true, true, false, false, false, false] rfl rfl (one_of HT_.out (by kernel_rfl)) (by decide) (fun K hK => ?_); have hs50 : w48.cell? ⟨gb344, 7, none⟩ = some (.int .i64 ((rd_T46 l0_0 0).f7)) := (blk_cell BK344.out 7).trans rfl; have hfs50 := blk_frozen BK344.out 7; have hns50_0 := NB339_344.out; have hns50_1 := NB340_344.out; have hms50_0 := NB344_339.out; have hms50_1 := NB344_340.out; refine skip_ (w1 := ?_) ?_ ?_ ?_ ?_; rotate_left
          ·kernel_rfl
          ·rfl
          ·go_simp; rfl
          refine hK.out _ _ (own_string (P := Try.prog) Try.underlying52 Try.underlying5 Try.underlying9 (Kd.own_of_R (Kd.R_far (p := ⟨gb344, 7, none⟩) (Kd.R_types HO_7.out BK344.out (by decide)) (fun _ hk => hk.2) (.int .i64 0)))) (fun hHeld => ?_); clear hK K; refine pure_ (i := 4) (N := some 59) (v := ?_) (a' := ?_) #[true, true, true, true, true, false, false, false] rfl rfl (any_of HT_.out (by kernel_rfl)) (fun _ _ _ h => h) (Or.inl ⟨by rfl, ?_⟩) ?_ ?_; rotate_left
          ·intro w'; go_simp; with_reducible rfl
          rotate_left
          ·simp only [Act.put, List.setIfInBounds_toArray, List.set_cons_zero, List.set_cons_succ, i64_w, i32_w]; rfl
          refine one_ (i := 5) (N := none) #[true, true, true, true, true, true, false, false] rfl rfl (one_of HT_.out (by kernel_rfl)) (by decide) (fun K hK => ?_); have hs51 : w48.cell? ⟨gb344, 8, none⟩ = some (.int .i64 ((rd_T46 l0_0 0).f8)) := (blk_cell BK344.out 8).trans rfl; have hfs51 := blk_frozen BK344.out 8; have hns51_0 := NB339_344.out; have hns51_1 := NB340_344.out; have hms51_0 := NB344_339.out; have hms51_1 := NB344_340.out; refine skip_ (w1 := ?_) ?_ ?_ ?_ ?_; rotate_left
          ·kernel_rfl
          ·rfl
          ·go_simp; rfl
          refine hK.out _ _ (own_string (P := Try.prog) Try.underlying52 Try.underlying5 Try.underlying9 (Kd.own_of_R (Kd.R_far (p := ⟨gb344, 8, none⟩) (Kd.R_far (p := ⟨gb344, 7, none⟩) (Kd.R_types HO_7.out BK344.out (by decide)) (fun _ hk => hk.2) (.int .i64 0)) (fun _ hk => hk.2) (.int .i64 0)))) (fun hHeld => ?_); clear hK K; obtain ⟨w52, hw_⟩ : ∃ W_, W_ = (w48.setCell ⟨gb344, 7, none⟩ (.int .i64 0)).setCell ⟨gb344, 8, none⟩ (.int .i64 0) := ⟨_, rfl⟩
          have n0_ : Aside0 (Kd.R (Kd.int .u8) 5 w52 w.heap.size (fun _ => True) v346 x7_2) := ⟨by rw [hw_]; exact Kd.R_mono (Kd.R_far (p := ⟨gb344, 8, none⟩) (Kd.R_far (p := ⟨gb344, 7, none⟩) (Kd.R_types HO_7.out BK344.out (by decide)) (fun _ hk => hk.2) (.int .i64 0)) (fun _ hk => hk.2) (.int .i64 0)) (fun _ _ => trivial)⟩
          have n1_ := Aside0.mk (blk_far (blk_far BK339.out NB339_344.out (.int .i64 0) (p := ⟨gb344, 7, none⟩)) NB339_344.out (.int .i64 0) (p := ⟨gb344, 8, none⟩)); rw [← hw_] at n1_; have n2_ := Aside0.mk (blk_far (blk_far BK340.out NB340_344.out (.int .i64 0) (p := ⟨gb344, 7, none⟩)) NB340_344.out (.int .i64 0) (p := ⟨gb344, 8, none⟩)); rw [← hw_] at n2_; have n3_ : Aside0 (w52.heap[gb344]? = some (.cells #[.int .i64 ((rd_T46 l0_0 0).f0), .int .i64 ((rd_T46 l0_0 0).f1), .bool ((rd_T46 l0_0 0).f2), .int .i64 ((rd_T46 l0_0 0).f3), .int .i64 ((rd_T46 l0_0 0).f4), .int .i64 ((rd_T46 l0_0 0).f5), .int .i64 x345006_2, .int .i64 0, .int .i64 0, .string ((rd_T46 l0_0 0).f9)] 46 (0, 0))) := ⟨by rw [hw_]; refine blk_put (cs := #[.int .i64 ((rd_T46 l0_0 0).f0), .int .i64 ((rd_T46 l0_0 0).f1), .bool ((rd_T46 l0_0 0).f2), .int .i64 ((rd_T46 l0_0 0).f3), .int .i64 ((rd_T46 l0_0 0).f4), .int .i64 ((rd_T46 l0_0 0).f5), .int .i64 x345006_2, .int .i64 0, .int .i64 ((rd_T46 l0_0 0).f8), .string ((rd_T46 l0_0 0).f9)]) ?_ 8 _ rfl; refine blk_put (cs := #[.int .i64 ((rd_T46 l0_0 0).f0), .int .i64 ((rd_T46 l0_0 0).f1), .bool ((rd_T46 l0_0 0).f2), .int .i64 ((rd_T46 l0_0 0).f3), .int .i64 ((rd_T46 l0_0 0).f4), .int .i64 ((rd_T46 l0_0 0).f5), .int .i64 x345006_2, .int .i64 ((rd_T46 l0_0 0).f7), .int .i64 ((rd_T46 l0_0 0).f8), .string ((rd_T46 l0_0 0).f9)]) ?_ 7 _ rfl; exact BK344.out⟩
          have n4_ : Aside0 (Below w.heap.size w w52) := ⟨by rw [hw_]; exact below_set (below_set HB.out GE344.out) GE344.out⟩
          rw [← hw_] at hHeld ⊢; clear hw_ HO_7 HB BK344 BK339 BK340; have HO_7 := n0_; have BK339 := n1_; have BK340 := n2_; have BK344 := n3_; have HB := n4_; clear n0_ n1_ n2_ n3_ n4_; clear hs50; clear hfs50; clear hs51; clear hfs51; refine pure_ (i := 6) (N := some 60) (v := ?_) (a' := ?_) #[true, true, true, true, true, true, true, false] rfl rfl (any_of HT_.out (by kernel_rfl)) (fun _ _ _ h => h) (Or.inl ⟨by rfl, ?_⟩) ?_ ?_; rotate_left
          ·intro w'; go_simp; with_reducible rfl
          rotate_left
          ·simp only [Act.put, List.setIfInBounds_toArray, List.set_cons_zero, List.set_cons_succ, i64_w, i32_w]; rfl
          refine one_ (i := 7) (N := none) #[true, true, true, true, true, true, true, true] rfl rfl (one_of HT_.out (by kernel_rfl)) (by decide) (fun K hK => ?_); have hs53 : w52.cell? ⟨gb344, 9, none⟩ = some (.string ((rd_T46 l0_0 0).f9)) := (blk_cell BK344.out 9).trans rfl; have hfs53 := blk_frozen BK344.out 9; have hns53_0 := NB339_344.out; have hns53_1 := NB340_344.out; have hms53_0 := NB344_339.out; have hms53_1 := NB344_340.out; refine skip_ (w1 := ?_) ?_ ?_ ?_ ?_; rotate_left
          ·kernel_rfl
          ·rfl
          ·go_simp; rfl
          refine hK.out _ _ (own_string (P := Try.prog) Try.underlying52 Try.underlying5 Try.underlying9 (Kd.own_of_R (Kd.R_far (p := ⟨gb344, 9, none⟩) (Kd.R_types HO_7.out BK344.out (by decide)) (fun _ hk => hk.2) (.string (strOfNums x7_2))))) (fun hHeld => ?_); clear hK K; refine done_ (done_of HT_.out (by kernel_rfl)) ?_; have hnb54 := NB344_339.out; have hnc54 := NB339_344.out; have hnb55 := NB344_340.out; have hnc55 := NB340_344.out; obtain ⟨hcz56_0, hcz56_1, hcz56_2, hcz56_3, hcz56_4, hcz56_5, hcz56_6, hcz56_7, hcz56_8, hcz56_9, hfz56_0, hfz56_1, hfz56_2, hfz56_3, hfz56_4, hfz56_5, hfz56_6, hfz56_7, hfz56_8, hfz56_9⟩ := cf10 BK344.out; have hnb57 := NB340_339.out; have hnc57 := NB339_340.out; obtain ⟨hcz58_0, hcz58_1, hcz58_2, hcz58_3, hcz58_4, hcz58_5, hcz58_6, hcz58_7, hcz58_8, hcz58_9, hfz58_0, hfz58_1, hfz58_2, hfz58_3, hfz58_4, hfz58_5, hfz58_6, hfz58_7, hfz58_8, hfz58_9⟩ := cf10 BK340.out; try go_wp2
          refine bodyPost_ret (results_ct rfl _ _ gb340 46 #[.int .i64 ((rd_T46 l0_0 0).f0), .int .i64 ((rd_T46 l0_0 0).f1), .bool ((rd_T46 l0_0 0).f2), .int .i64 ((rd_T46 l0_0 0).f3), .int .i64 ((rd_T46 l0_0 0).f4), .int .i64 ((rd_T46 l0_0 0).f5), .int .i64 x345006_2, .int .i64 0, .int .i64 0, .string (strOfNums x7_2)] (0, 0) _ rfl (by (with_reducible repeat (first | refine blk_drewN ?_ _ | refine blk_drew ?_ | refine blk_alloc ?_ _)); refine blk_put (cs := #[.int .i64 ((rd_T46 l0_0 0).f0), .int .i64 ((rd_T46 l0_0 0).f1), .bool ((rd_T46 l0_0 0).f2), .int .i64 ((rd_T46 l0_0 0).f3), .int .i64 ((rd_T46 l0_0 0).f4), .int .i64 ((rd_T46 l0_0 0).f5), .int .i64 x345006_2, .int .i64 0, .int .i64 0, .string (⟨#[]⟩ : ByteArray)]) ?_ 9 _ rfl; (with_reducible repeat (first | refine blk_drewN ?_ _ | refine blk_drew ?_ | refine blk_alloc ?_ _)); refine blk_put (cs := #[.int .i64 ((rd_T46 l0_0 0).f0), .int .i64 ((rd_T46 l0_0 0).f1), .bool ((rd_T46 l0_0 0).f2), .int .i64 ((rd_T46 l0_0 0).f3), .int .i64 ((rd_T46 l0_0 0).f4), .int .i64 ((rd_T46 l0_0 0).f5), .int .i64 x345006_2, .int .i64 0, .int .i64 0, .string (⟨#[]⟩ : ByteArray)]) ?_ 8 _ rfl; (with_reducible repeat (first | refine blk_drewN ?_ _ | refine blk_drew ?_ | refine blk_alloc ?_ _)); refine blk_put (cs := #[.int .i64 ((rd_T46 l0_0 0).f0), .int .i64 ((rd_T46 l0_0 0).f1), .bool ((rd_T46 l0_0 0).f2), .int .i64 ((rd_T46 l0_0 0).f3), .int .i64 ((rd_T46 l0_0 0).f4), .int .i64 ((rd_T46 l0_0 0).f5), .int .i64 x345006_2, .int .i64 0, .int .i64 0, .string (⟨#[]⟩ : ByteArray)]) ?_ 7 _ rfl; (with_reducible repeat (first | refine blk_drewN ?_ _ | refine blk_drew ?_ | refine blk_alloc ?_ _)); refine blk_put (cs := #[.int .i64 ((rd_T46 l0_0 0).f0), .int .i64 ((rd_T46 l0_0 0).f1), .bool ((rd_T46 l0_0 0).f2), .int .i64 ((rd_T46 l0_0 0).f3), .int .i64 ((rd_T46 l0_0 0).f4), .int .i64 ((rd_T46 l0_0 0).f5), .int .i64 0, .int .i64 0, .int .i64 0, .string (⟨#[]⟩ : ByteArray)]) ?_ 6 _ rfl; (with_reducible repeat (first | refine blk_drewN ?_ _ | refine blk_drew ?_ | refine blk_alloc ?_ _)); refine blk_put (cs := #[.int .i64 ((rd_T46 l0_0 0).f0), .int .i64 ((rd_T46 l0_0 0).f1), .bool ((rd_T46 l0_0 0).f2), .int .i64 ((rd_T46 l0_0 0).f3), .int .i64 ((rd_T46 l0_0 0).f4), .int .i64 0, .int .i64 0, .int .i64 0, .int .i64 0, .string (⟨#[]⟩ : ByteArray)]) ?_ 5 _ rfl; (with_reducible repeat (first | refine blk_drewN ?_ _ | refine blk_drew ?_ | refine blk_alloc ?_ _)); refine blk_put (cs := #[.int .i64 ((rd_T46 l0_0 0).f0), .int .i64 ((rd_T46 l0_0 0).f1), .bool ((rd_T46 l0_0 0).f2), .int .i64 ((rd_T46 l0_0 0).f3), .int .i64 0, .int .i64 0, .int .i64 0, .int .i64 0, .int .i64 0, .string (⟨#[]⟩ : ByteArray)]) ?_ 4 _ rfl; (with_reducible repeat (first | refine blk_drewN ?_ _ | refine blk_drew ?_ | refine blk_alloc ?_ _)); refine blk_put (cs := #[.int .i64 ((rd_T46 l0_0 0).f0), .int .i64 ((rd_T46 l0_0 0).f1), .bool ((rd_T46 l0_0 0).f2), .int .i64 0, .int .i64 0, .int .i64 0, .int .i64 0, .int .i64 0, .int .i64 0, .string (⟨#[]⟩ : ByteArray)]) ?_ 3 _ rfl; (with_reducible repeat (first | refine blk_drewN ?_ _ | refine blk_drew ?_ | refine blk_alloc ?_ _)); refine blk_put (cs := #[.int .i64 ((rd_T46 l0_0 0).f0), .int .i64 ((rd_T46 l0_0 0).f1), .bool false, .int .i64 0, .int .i64 0, .int .i64 0, .int .i64 0, .int .i64 0, .int .i64 0, .string (⟨#[]⟩ : ByteArray)]) ?_ 2 _ rfl; (with_reducible repeat (first | refine blk_drewN ?_ _ | refine blk_drew ?_ | refine blk_alloc ?_ _)); refine blk_put (cs := #[.int .i64 ((rd_T46 l0_0 0).f0), .int .i64 0, .bool false, .int .i64 0, .int .i64 0, .int .i64 0, .int .i64 0, .int .i64 0, .int .i64 0, .string (⟨#[]⟩ : ByteArray)]) ?_ 1 _ rfl; (with_reducible repeat (first | refine blk_drewN ?_ _ | refine blk_drew ?_ | refine blk_alloc ?_ _)); refine blk_put (cs := #[.int .i64 0, .int .i64 0, .bool false, .int .i64 0, .int .i64 0, .int .i64 0, .int .i64 0, .int .i64 0, .int .i64 0, .string (⟨#[]⟩ : ByteArray)]) ?_ 0 _ rfl; (with_reducible repeat (first | refine blk_drewN ?_ _ | refine blk_drew ?_ | refine blk_alloc ?_ _)); refine blk_far ?_ NB340_344.out _; (with_reducible repeat (first | refine blk_drewN ?_ _ | refine blk_drew ?_ | refine blk_alloc ?_ _)); exact BK340.out) Try.underlying46 rfl (by kernel_rfl)) rfl ?_; exact ⟨by first | rfl | (simp [errW_none, errW_some] <;> rfl) | (simp [*, errW_none, errW_some] <;> rfl), by repeat (first | (with_reducible first | exact HB.out | apply below_alloc | apply pw_below_drewN | apply below_drew1 | refine below_set ?_ GE339.out | refine below_set ?_ GE340.out | refine below_set ?_ GE344.out) | exact HB.out | (with_reducible exact Below.refl _ _))⟩
      ·rw [if_neg c18] at H; exact absurd H (by simp)
     ·rw [if_neg c17] at H; exact absurd H (by simp)
    ·rw [if_neg c16] at H; exact absurd H (by simp)
end Go.Proofs.Ytlkbbolkadkedaa.QFnCovers
