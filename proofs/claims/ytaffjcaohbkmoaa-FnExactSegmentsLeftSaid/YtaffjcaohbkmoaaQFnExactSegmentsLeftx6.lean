import Derived.Test.YtaffjcaohbkmoaaQFnExactSegmentsLeftx0
import Derived.Test.YtaffjcaohbkmoaaQFnExactSegmentsLeftx5
namespace Go.Proofs.Ytaffjcaohbkmoaa.QFnExactSegmentsLeft
open Go.RowKit Go.Proofs.YtaffjcaohbkmoaaW.PrintWords Go.Proofs.YtaffjcaohbkmoaaW.PrintLast Go.Proofs.YtaffjcaohbkmoaaW.PrintMore
attribute [local go_sem] max2_int min2_int max_two min_two max_three min_three max_four min_four   -- for this text's walks alone
set_option linter.unusedVariables false
set_option linter.unusedSimpArgs false
def impl_segment.f (a0 : ByteArray) (a1 : Int) : Option (ByteArray) := if 0 ≤ (wrap64 (a1 * 8)) then (if (wrap64 (a1 * 8)) ≤ (mn (a0.size : Int) (wrap64 ((wrap64 (a1 + 1)) * 8))) then (if (mn (a0.size : Int) (wrap64 ((wrap64 (a1 + 1)) * 8))) ≤ (a0.size : Int) then (some (a0.extract ((wrap64 (a1 * 8)) : Int).toNat ((mn (a0.size : Int) (wrap64 ((wrap64 (a1 + 1)) * 8))) : Int).toNat)) else (none)) else (none)) else (none)
set_option maxHeartbeats 8000000 in
set_option maxRecDepth 100000 in
theorem impl_segment.calls (a0 : ByteArray) (a1 : Int) (r : ByteArray) (w : World) (h : impl_segment.f a0 a1 = some r) :
  Calls Try.prog 84 #[.string a0, .int .i64 a1] w fun e w' => e = .returned (.string r) ∧ Below w.heap.size w w' := by
 have HB := Aside0.mk (Below.refl w.heap.size w); have H : (if 0 ≤ (wrap64 (a1 * 8)) then (if (wrap64 (a1 * 8)) ≤ (mn (a0.size : Int) (wrap64 ((wrap64 (a1 + 1)) * 8))) then (if (mn (a0.size : Int) (wrap64 ((wrap64 (a1 + 1)) * 8))) ≤ (a0.size : Int) then (some (a0.extract ((wrap64 (a1 * 8)) : Int).toNat ((mn (a0.size : Int) (wrap64 ((wrap64 (a1 + 1)) * 8))) : Int).toNat)) else (none)) else (none)) else (none)) = some r := h; clear h; obtain ⟨ji3, hji3⟩ : ∃ j_ : Int, (mn (a0.size : Int) (wrap64 ((wrap64 (a1 + 1)) * 8))) = j_ := ⟨_, rfl⟩
 replace H : (if 0 ≤ (wrap64 (a1 * 8)) then (if (wrap64 (a1 * 8)) ≤ (ji3) then (if (ji3) ≤ (a0.size : Int) then (some (a0.extract ((wrap64 (a1 * 8)) : Int).toNat ((ji3) : Int).toNat)) else (none)) else (none)) else (none)) = some r := by first | (rw [hji3] at H; exact H) | (simp only [hji3] at H ⊢; exact H)
 have hji3_ : (if (wrap64 ((wrap64 (a1 + 1)) * 8)) < (a0.size : Int) then (wrap64 ((wrap64 (a1 + 1)) * 8)) else (a0.size : Int)) = ji3 := hji3; obtain ⟨ji4, hji4⟩ : ∃ j_ : Int, (wrap64 (a1 * 8)) = j_ := ⟨_, rfl⟩
 replace H : (if 0 ≤ (ji4) then (if (ji4) ≤ (ji3) then (if (ji3) ≤ (a0.size : Int) then (some (a0.extract ((ji4) : Int).toNat ((ji3) : Int).toNat)) else (none)) else (none)) else (none)) = some r := by first | (rw [hji4] at H; exact H) | (simp only [hji4] at H ⊢; exact H)
 have hji4w : (IntKind.i64.wrap (a1 * 8)) = ji4 := (i64_w _).trans hji4; by_cases c5 : 0 ≤ (ji4)
 ·rw [if_pos c5] at H; have c5b0 := eq_true c5; have c5b1 : decide (0 ≤ (ji4)) = true := decide_eq_true c5; clear c5; by_cases c6 : (ji4) ≤ (ji3)
  ·rw [if_pos c6] at H; have c6b0 := eq_true c6; have c6b1 : decide ((ji4) ≤ (ji3)) = true := decide_eq_true c6; clear c6; by_cases c7 : (ji3) ≤ (a0.size : Int)
   ·rw [if_pos c7] at H; have c7b0 := eq_true c7; have c7b1 : decide ((ji3) ≤ (a0.size : Int)) = true := decide_eq_true c7; clear c7; obtain rfl := Option.some.inj H
    go_enter Try.func84, Try.ntmps84
    go_wp2; go_ret; exact ⟨by first | rfl | (simp [errW_none, errW_some] <;> rfl) | (simp only [← hji3, ← hji4]; first | rfl | (simp [errW_none, errW_some] <;> rfl)) | (simp [*, errW_none, errW_some] <;> rfl), by repeat (first | (with_reducible first | exact HB.out | apply below_alloc | apply pw_below_drewN | apply below_drew1) | exact HB.out | (with_reducible exact Below.refl _ _))⟩
   ·rw [if_neg c7] at H; exact absurd H (by simp)
  ·rw [if_neg c6] at H; exact absurd H (by simp)
 ·rw [if_neg c5] at H; exact absurd H (by simp)
def sesRow (s : ByteArray) (got : List Bool) (m : Nat) : List Int := (List.range s.size).map fun j => if j / 8 < m ∧ got.getD (j / 8) false = true then bt s (j : Int) else 0
theorem sesRow_len (s : ByteArray) (got : List Bool) (m : Nat) : (sesRow s got m).length = s.size := by simp [sesRow]
theorem sesRow_get (s : ByteArray) (got : List Bool) (m j : Nat) (h : j < s.size) : (sesRow s got m)[j]? = some (if j / 8 < m ∧ got.getD (j / 8) false = true then bt s (j : Int) else 0) := by
 simp [sesRow, h]
theorem sesRow_no (s : ByteArray) (got : List Bool) (m : Nat) (h : got.getD m false = false) : sesRow s got (m + 1) = sesRow s got m := by
 unfold sesRow; apply List.map_congr_left; intro j _; by_cases h1 : j / 8 < m
 ·have h2 : j / 8 < m + 1 := by omega
  simp [h1, h2]
 ·by_cases h3 : j / 8 = m
  ·rw [h3, h]; simp
  ·have h2 : ¬ j / 8 < m + 1 := by omega
   simp [h1, h2]
theorem bytesOf_get (e : ByteArray) (j : Nat) (h : j < e.size) : (bytesOf e)[j]? = some (bt e (j : Int)) := by
 rw [← rd_bytesOf]; have hl : j < (bytesOf e).length := by rw [bytesOf_length]; exact h
 rw [List.getElem?_eq_getElem hl]; simp [rd, List.getD_eq_getElem?_getD, List.getElem?_eq_getElem hl]
theorem bt_extract (s : ByteArray) (a b j : Nat) (h : a + j < b) (hb : b ≤ s.size) : bt (s.extract a b) (j : Int) = bt s ((a + j : Nat) : Int) := by
 have h1 : j < (s.extract a b).size := by simp; omega
 have h2 : a + j < s.size := by omega
 simp only [bt, Int.toNat_natCast, dif_pos h1, dif_pos h2, ByteArray.getElem_extract]
theorem sesRow_yes (s : ByteArray) (got : List Bool) (m : Nat) (h : got.getD m false = true) (hm : 8 * m ≤ s.size) (e : ByteArray) (he : e = s.extract (8 * m) (min s.size (8 * m + 8))) :
  (sesRow s got m).take (8 * m) ++ bytesOf e ++ (sesRow s got m).drop (8 * m + e.size) = sesRow s got (m + 1) := by
 have hes : e.size = min s.size (8 * m + 8) - 8 * m := by rw [he]; simp
 apply List.ext_getElem?; intro j; by_cases h0 : j < s.size
 ·rw [sesRow_get _ _ _ _ h0]; by_cases h1 : j < 8 * m
  ·rw [List.append_assoc, List.getElem?_append_left (by rw [List.length_take, sesRow_len]; omega), List.getElem?_take, if_pos h1, sesRow_get _ _ _ _ h0]; have h2 : j / 8 < m := by omega
   have h3 : j / 8 < m + 1 := by omega
   simp [h2, h3]
  ·by_cases h2 : j < 8 * m + e.size
   ·rw [List.getElem?_append_left (by rw [List.length_append, List.length_take, sesRow_len, bytesOf_length]; omega), List.getElem?_append_right (by rw [List.length_take, sesRow_len]; omega), List.length_take, sesRow_len, Nat.min_eq_left hm, bytesOf_get _ _ (by omega), he, bt_extract _ _ _ _ (by omega) (by omega)]; have h3 : j / 8 = m := by omega
    rw [h3, h, show 8 * m + (j - 8 * m) = j by omega]
    simp
   ·rw [List.getElem?_append_right (by rw [List.length_append, List.length_take, sesRow_len, bytesOf_length]; omega), List.length_append, List.length_take, sesRow_len, bytesOf_length, Nat.min_eq_left hm, List.getElem?_drop, show 8 * m + e.size + (j - (8 * m + e.size)) = j by omega, sesRow_get _ _ _ _ h0]; have h3 : ¬ j / 8 < m := by omega
    have h4 : ¬ j / 8 < m + 1 := by omega
    simp [h3, h4]
 ·rw [List.getElem?_eq_none (by simp only [List.length_append, List.length_take, List.length_drop, sesRow_len, bytesOf_length]; omega), List.getElem?_eq_none (by rw [sesRow_len]; omega)]
def SesAt (w : World) (g : Nat) (l : List Int) : Prop := w.heap[g]? = some (.cells (l.map (Value.int .u8)).toArray 5 (0, 0))
theorem ses_make (n : Nat) : madeCells (Value.int .u8 0).cells n = ((List.replicate n (0 : Int)).map (Value.int .u8)).toArray := by
 apply Array.ext
 ·simp [size_madeCells]
 ·intro i h1 h2; rw [size_madeCells] at h1; simp [madeCells, Value.cells, Nat.mod_one]
theorem ses_info : (Try.prog.info? 5).map (fun i => (i.zero, i.size, i.bytes)) = some (some (.int .u8 0), 1, 1) := by kernel_rfl
theorem ses_mk (w : World) (n : Nat) (hn : n ≤ 40) : Sem.run Try.prog (Instr.makeSlice 22 (.int .i64 (n : Int)) (.int .i64 (n : Int))) w = .ok (.slice (some ⟨w.heap.size, 0, none⟩) n n) (w.alloc (.cells ((List.replicate n (0 : Int)).map (Value.int .u8)).toArray 5)) := by
 obtain ⟨i, hi, hz⟩ := Option.map_eq_some_iff.1 ses_info; simp only [Prod.mk.injEq] at hz; obtain ⟨z0, z1, z2⟩ := hz; have := run_makeSlice (P := Try.prog) (w := w) 22 5 i (.int .u8 0) Try.underlying22 hi z0 .i64 .i64 (n : Int) (n : Int) (by omega) (by omega) (by rw [z1, Int.toNat_natCast]; omega) (by rw [z2]; omega) (by omega); rw [z1] at this; simp only [Int.toNat_natCast, Nat.mul_one] at this; rw [ses_make] at this; exact this
set_option maxRecDepth 100000 in
set_option maxHeartbeats 4000000 in
theorem ses_segment (s : ByteArray) (a : Nat) (hs : s.size ≤ 40) (ha : 8 * a ≤ s.size) (w : World) : Calls Try.prog 84 #[.string s, .int .i64 (a : Int)] w fun e w' => e = .returned (.string (s.extract (8 * a) (min s.size (8 * a + 8)))) ∧ w' = w := by
 have h0 : (0 : Int) ≤ (a : Int) * 8 := by omega
 by_cases hlt : ((a : Int) + 1) * 8 < (s.size : Int)
 ·have hx := fun w => run_slice_string (P := Try.prog) w 9 s .i64 .i64 ((a : Int) * 8) (((a : Int) + 1) * 8) Try.underlying9 (by omega) (by omega) (by omega)
  have e1 : s.extract ((a : Int) * 8).toNat (((a : Int) + 1) * 8).toNat = s.extract (8 * a) (min s.size (8 * a + 8)) := by
   rw [show ((a : Int) * 8).toNat = 8 * a by omega, show (((a : Int) + 1) * 8).toNat = min s.size (8 * a + 8) by omega]
  go_enter Try.func84, Try.ntmps84
  go_wp2; go_ret; exact ⟨rfl, rfl⟩
 ·have hx := fun w => run_slice_string (P := Try.prog) w 9 s .i64 .i64 ((a : Int) * 8) (s.size : Int) Try.underlying9 (by omega) (by omega) (by omega)
  have e1 : s.extract ((a : Int) * 8).toNat ((s.size : Int)).toNat = s.extract (8 * a) (min s.size (8 * a + 8)) := by
   rw [show ((a : Int) * 8).toNat = 8 * a by omega, show ((s.size : Int)).toNat = min s.size (8 * a + 8) by omega]
  go_enter Try.func84, Try.ntmps84
  go_wp2; go_ret; refine ⟨?_, rfl⟩; rw [show min s.size (8 * a + 8) = s.size by omega, Nat.mul_comm 8 a]; rfl
theorem ses_other {w : World} {g k : Nat} {o : Obj} (h : w.heap[k]? = some o) (hk : k ≠ g) (c : Array Value) : (w.setRow g c).heap[k]? = some o := by
 unfold World.setRow; rw [Array.getElem?_modify, if_neg (fun e => hk e.symm)]; exact h
theorem ses_below {B : Nat} {w0 w : World} {g : Nat} (h : Below B w0 w) (hb : B ≤ g) (c : Array Value) : Below B w0 (w.setRow g c) :=
 ⟨h.os, h.tape, h.output, by show _ ≤ (w.heap.modify g _).size; rw [Array.size_modify]; exact h.size, fun k hk => by
  rw [← h.block k hk]; show (w.heap.modify g _)[k]? = _; rw [Array.getElem?_modify, if_neg (by omega)]⟩
set_option maxRecDepth 100000 in
set_option maxHeartbeats 4000000 in
theorem ses_walk (a0_0 : ByteArray) (A0_1 : Option Addr) (c0_1 n1 : Nat) (A0_2 : Option Addr) (c0_2 : Nat) (l0_2 : List Bool) (a0_3 : ByteArray) (a0_4 : Bool) (A0_5 : Option Addr) (c0_5 n5 : Nat) (A0_6 : Option Addr) (c0_6 n6 : Nat) (w : World) (hr0_2 : Kd.C Kd.bool w A0_2 l0_2.length l0_2) (hs : a0_0.size ≤ 40) (hg : 8 * l0_2.length ≤ a0_0.size + 7) :
  Calls Try.prog 82 #[.agg #[.string a0_0, .slice A0_1 n1 c0_1, .slice A0_2 l0_2.length c0_2, .string a0_3, .bool a0_4, .slice A0_5 n5 c0_5, .slice A0_6 n6 c0_6]] w fun e w' => e = .returned (.string (strOfNums (sesRow a0_0 l0_2 l0_2.length))) ∧ Below w.heap.size w w' := by
 have HR := Aside0.mk hr0_2; clear hr0_2; have hmk := fun W => ses_mk W a0_0.size hs
 go_enter Try.func82, Try.ntmps82
 go_wp2; have hbox : ∀ o : Obj, ((w.alloc (.cells #[.string a0_0, .slice A0_1 n1 c0_1, .slice A0_2 l0_2.length c0_2, .string a0_3, .bool a0_4, .slice A0_5 n5 c0_5, .slice A0_6 n6 c0_6] 48)).alloc o).heap[w.heap.size]? = some (.cells #[.string a0_0, .slice A0_1 n1 c0_1, .slice A0_2 l0_2.length c0_2, .string a0_3, .bool a0_4, .slice A0_5 n5 c0_5, .slice A0_6 n6 c0_6] 48 (0, 0)) := fun o => blk_alloc (heap_alloc_new w _) _
 have hrow : ∀ W : World, W.heap.size = w.heap.size + 1 → SesAt (W.alloc (.cells (Array.replicate a0_0.size (Value.int .u8 0)) 5)) (w.heap.size + 1) (sesRow a0_0 l0_2 0) := fun W hW => by
  have e : Array.replicate a0_0.size (Value.int .u8 0) = ((sesRow a0_0 l0_2 0).map (Value.int .u8)).toArray := by
   apply Array.ext
   ·simp [sesRow]
   ·intro i h1 h2; simp [sesRow]
  unfold SesAt; rw [e, ← hW]; exact heap_alloc_new W _
 go_loopg [13] l0_2.length (fun gg s13 wr => ∃ m : Nat, m ≤ l0_2.length ∧ l0_2.length - m ≤ gg ∧ s13 = .int .i64 (m : Int) ∧ Aside0 (SesAt wr (w.heap.size + 1) (sesRow a0_0 l0_2 m)) ∧ Aside0 (Below w.heap.size w wr) ∧ Aside0 (wr.heap[w.heap.size]? = some (.cells #[.string a0_0, .slice A0_1 n1 c0_1, .slice A0_2 l0_2.length c0_2, .string a0_3, .bool a0_4, .slice A0_5 n5 c0_5, .slice A0_6 n6 c0_6] 48 (0, 0))))
 case atStart => exact ⟨0, Nat.zero_le _, by omega, rfl, ⟨hrow _ (show (w.heap.push _).size = w.heap.size + 1 from Array.size_push ..)⟩, ⟨((Below.refl _ w).alloc (Nat.le_refl _) _).alloc (show w.heap.size ≤ (w.heap.push _).size by rw [Array.size_push]; omega) _⟩, ⟨hbox _⟩⟩
 case round =>
  clear hbox hrow hmk; obtain ⟨m, hm, hgg, rfl, HP, HB, HX⟩ := hrel; by_cases hlt : m < l0_2.length
  ·have hltz : (m : Int) < (l0_2.length : Int) := by omega
   have h0 : 0 ≤ (m : Int) := by omega
   obtain ⟨ad, rfl, g1⟩ := Kd.at_bool HR.out (m : Int) h0 hltz; replace g1 := (HB.out.cell (World.block_lt_of_cell? w _ g1)).trans g1; simp only [Int.toNat_natCast] at g1; have hrd : rdOf false l0_2 (m : Int) = l0_2.getD m false := by simp [rdOf]
   rw [hrd] at g1; cases hy : l0_2.getD m false with
   | false =>
    rw [hy] at g1; have e := sesRow_no a0_0 l0_2 m hy; go_wp2; go_roundg (l0_2.length - (m + 1))
    case measure => omega
    case rel => exact ⟨m + 1, by omega, by omega, by go_num, ⟨by rw [e]; exact HP.out⟩, HB, HX⟩
   | true =>
    rw [hy] at g1; have c0 : (0 : Int) ≤ (m : Int) * 8 := by omega
    have c1 : (m : Int) * 8 ≤ (a0_0.size : Int) := by omega
    have c0b := eq_true c0; have c1b := eq_true c1; have hcell : wr.drew.cell? ⟨w.heap.size, 0, none⟩ = some (.string a0_0) := (blk_cell HX.out 0).trans rfl; have hseg := ses_segment a0_0 m hs (by omega) wr.drew; have e := sesRow_yes a0_0 l0_2 m hy (by omega) _ rfl; have hes : (a0_0.extract (8 * m) (min a0_0.size (8 * m + 8))).size ≤ a0_0.size - m * 8 := by simp; omega
    generalize a0_0.extract (8 * m) (min a0_0.size (8 * m + 8)) = seg at hseg e hes; have hcp : ∀ ty, (Builtin.copy_ #[22, 9] ty #[.slice (some ⟨w.heap.size + 1, ((m : Int) * 8).toNat, none⟩) (a0_0.size - ((m : Int) * 8).toNat) (a0_0.size - ((m : Int) * 8).toNat), .string seg]).run Try.prog wr.drew = .ok (goInt seg.size) (wr.drew.setRow (w.heap.size + 1) ((sesRow a0_0 l0_2 (m + 1)).map (Value.int .u8)).toArray) := fun ty => by
     have h := Go.Lib.run_copy_row_string (P := Try.prog) wr.drew 22 9 ty 5 (w.heap.size + 1) (m * 8) (a0_0.size - m * 8) (a0_0.size - m * 8) seg ((sesRow a0_0 l0_2 m).map (Value.int .u8)).toArray 5 Try.underlying22 (by kernel_rfl) HP.out hes (by simp [sesRow_len]; omega); have eb : Go.Lib.byteCells seg.data.toList = (bytesOf seg).map (Value.int .u8) := by simp [Go.Lib.byteCells, bytesOf]
     rw [show ((m : Int) * 8).toNat = m * 8 by omega, h, ← e, eb]; simp only [List.map_append, List.map_take, List.map_drop, Nat.mul_comm m 8]
    have c2 : (a0_0.size = m * 8) = False := eq_false (by omega); have c4 : (a0_0.size = ((m : Int) * 8).toNat) = False := eq_false (by omega); have c5 : (((m : Int) * 8).toNat = a0_0.size) = False := eq_false (by omega); have c6 : wrap64 ((m : Int) * 8) = (m : Int) * 8 := by unfold wrap64; omega
    have c7 : IntKind.i64.wrap ((m : Int) * 8) = (m : Int) * 8 := (i64_w _).trans c6; have c8 := decide_eq_true c0; have c9 := decide_eq_true c1; go_wp2
    go_region_with (go_at_call 84; refine hseg.mono ?_; rintro e w2 ⟨rfl, rfl⟩)
    all_goals
     go_wp2; go_roundg (l0_2.length - (m + 1))
     case measure => omega
     case rel => exact ⟨m + 1, by omega, by omega, by go_num, ⟨setRow_heap _ _ _ _ _ _ (show wr.drew.heap[w.heap.size + 1]? = some (.cells _ 5 (0, 0)) from HP.out)⟩, ⟨ses_below (HB.out.trans (below_drew1 (Below.refl _ _))) (by omega) _⟩, ⟨ses_other (show wr.drew.heap[w.heap.size]? = some _ from HX.out) (by omega) _⟩⟩
  ·obtain rfl : m = l0_2.length := by omega
   have hC : (Kd.int .u8).C wr (some ⟨w.heap.size + 1, 0, none⟩) a0_0.size (sesRow a0_0 l0_2 l0_2.length) := by
    refine Kd.C_of_reads (d := 0) (h1 := fun _ => rfl) ⟨sesRow_len .., by omega, fun hp => ⟨_, rfl, fun j hj => ?_⟩⟩; have hj2 : j < (sesRow a0_0 l0_2 l0_2.length).length := by rw [sesRow_len]; exact hj
    rw [add_plain]; rw [blk_cell (show wr.heap[w.heap.size + 1]? = some (.cells _ 5 (0, 0)) from HP.out)]; simp [List.getD_eq_getElem?_getD, List.getElem?_eq_getElem hj2]
   have hcv := Kd.C_string (c := a0_0.size) (src := 22) (dst := 9) Try.underlying22 Try.underlying5 Try.underlying9 hC; go_wp2; go_ret; exact ⟨rfl, HB.out⟩
def impl_Session_bytes.f (a0_0 : ByteArray) (l0_1 : List Bool) (l0_2 : List Bool) (a0_3 : ByteArray) (a0_4 : Bool) (l0_5 : List (S100)) (l0_6 : List (S100)) : Option (ByteArray) :=
 if a0_0.size ≤ 40 ∧ 8 * l0_2.length ≤ a0_0.size + 7 then some (strOfNums (sesRow a0_0 l0_2 l0_2.length)) else none
theorem impl_Session_bytes.calls (a0_0 : ByteArray) (A0_1 : Option Addr) (c0_1 : Nat) (l0_1 : List Bool) (A0_2 : Option Addr) (c0_2 : Nat) (l0_2 : List Bool) (a0_3 : ByteArray) (a0_4 : Bool) (A0_5 : Option Addr) (c0_5 : Nat) (l0_5 : List (S100)) (A0_6 : Option Addr) (c0_6 : Nat) (l0_6 : List (S100)) (r : ByteArray) (w : World) (hr0_1 : Kd.C Kd.bool w A0_1 l0_1.length l0_1) (hc0_1 : l0_1.length ≤ c0_1) (hr0_2 : Kd.C Kd.bool w A0_2 l0_2.length l0_2) (hc0_2 : l0_2.length ≤ c0_2) (hr0_5 : Kd.C k100 w A0_5 l0_5.length l0_5) (hc0_5 : l0_5.length ≤ c0_5) (hr0_6 : Kd.C k100 w A0_6 l0_6.length l0_6) (hc0_6 : l0_6.length ≤ c0_6) (h : impl_Session_bytes.f a0_0 l0_1 l0_2 a0_3 a0_4 l0_5 l0_6 = some r) :
  Calls Try.prog 82 #[.agg #[.string a0_0, .slice A0_1 l0_1.length c0_1, .slice A0_2 l0_2.length c0_2, .string a0_3, .bool a0_4, .slice A0_5 l0_5.length c0_5, .slice A0_6 l0_6.length c0_6]] w fun e w' => e = .returned (.string r) ∧ Below w.heap.size w w' := by
 unfold impl_Session_bytes.f at h; by_cases hp : a0_0.size ≤ 40 ∧ 8 * l0_2.length ≤ a0_0.size + 7
 case neg => rw [if_neg hp] at h; cases h
 rw [if_pos hp] at h; obtain rfl := Option.some.inj h; exact ses_walk a0_0 A0_1 c0_1 l0_1.length A0_2 c0_2 l0_2 a0_3 a0_4 A0_5 c0_5 l0_5.length A0_6 c0_6 l0_6.length w hr0_2 hp.1 hp.2
def slices_Index_bool_bool.l0 : Nat → List Bool → Bool → Int → Int → Option (Int)
 | 0, _, _, _, _ => none
 | k + 1, x0, x1, x7, x8 => if x8 < x7 then (if 0 ≤ x8 then (if x8 < (x0.length : Int) then (if (x1 == (rdOf false x0 x8)) = true then (some x8) else (slices_Index_bool_bool.l0 k x0 x1 x7 (wrap64 (x8 + 1)))) else (none)) else (none)) else (some (-1))
def slices_Index_bool_bool.f (k : Nat) (l0 : List Bool) (a1 : Bool) : Option (Int) := slices_Index_bool_bool.l0 k l0 a1 (l0.length : Int) 0
theorem slices_Index_bool_bool.mono_l : ∀ k, (∀ y0 y1 y2 y3, LeO (slices_Index_bool_bool.l0 k y0 y1 y2 y3) (slices_Index_bool_bool.l0 (k + 1) y0 y1 y2 y3))
 | 0 => fun _ _ _ _ r h => by simp [slices_Index_bool_bool.l0] at h
 | k + 1 => by
  have ih0 := slices_Index_bool_bool.mono_l k
  ·intro y0 y1 y2 y3; unfold slices_Index_bool_bool.l0
   repeat' first
   | (with_reducible exact ih0 _ _ _ _)
   | (with_reducible exact LeO.refl _)
   | (with_reducible exact LeO.none _)
   | (with_reducible refine LeO.ite ?_ ?_)
   | (with_reducible refine LeO.bind ?_ (fun _ => ?_))
   | exact ih0 _ _ _ _
   | exact LeO.none _
   | refine LeO.ite ?_ ?_
   | refine LeO.bind ?_ (fun _ => ?_)
theorem slices_Index_bool_bool.mono : ∀ a0 a1 k, LeO (slices_Index_bool_bool.f k a0 a1) (slices_Index_bool_bool.f (k + 1) a0 a1) := by
 intro a0 a1 k; have ih0 := slices_Index_bool_bool.mono_l k; unfold slices_Index_bool_bool.f
 repeat' first
   | (with_reducible exact ih0 _ _ _ _)
   | (with_reducible exact LeO.refl _)
   | (with_reducible exact LeO.none _)
   | (with_reducible refine LeO.ite ?_ ?_)
   | (with_reducible refine LeO.bind ?_ (fun _ => ?_))
   | exact ih0 _ _ _ _
   | exact LeO.none _
   | refine LeO.ite ?_ ?_
   | refine LeO.bind ?_ (fun _ => ?_)
set_option maxHeartbeats 8000000 in
set_option maxRecDepth 100000 in
theorem slices_Index_bool_bool.calls (k : Nat) (A0 : Option Addr) (c0 : Nat) (l0 : List Bool) (a1 : Bool) (r : Int) (w : World) (hr0 : Kd.C Kd.bool w A0 l0.length l0) (hc0 : l0.length ≤ c0) (h : slices_Index_bool_bool.f k l0 a1 = some r) :
  Calls Try.prog 98 #[.slice A0 l0.length c0, .bool a1] w fun e w' => e = .returned (.int .i64 r) ∧ Drawn0 w w' := by
 have HR0 := Aside0.mk hr0; have HC0 := Aside0.mk hc0; clear hr0 hc0; have H : (slices_Index_bool_bool.l0 k l0 a1 (l0.length : Int) 0) = some r := h; clear h; have H' := Aside0.mk H; clear H
 go_enter Try.func98, Try.ntmps98
 go_wp2
 go_loopg [8] k (fun kq v8 w' => ∃ (x8_1 : Int), v8 = .int .i64 x8_1 ∧ Aside0 (slices_Index_bool_bool.l0 kq l0 a1 (l0.length : Int) x8_1 = some r) ∧ Aside0 (kq ≤ k) ∧ Drawn0 w w')
 case atStart => exact ⟨(0), (by first | rfl | (simp; done) | (simp [*]; done)), H', ⟨Nat.le_refl _⟩, by repeat (first | exact Drawn0.refl _ | apply Drawn0.step)⟩
 case round =>
  clear H'; try clear p2
  obtain ⟨x8_1, rfl, HA, HK1, ⟨m1, rfl⟩⟩ := hrel; cases gk with
  | zero => exact absurd HA.out (by simp [slices_Index_bool_bool.l0])
  | succ k1 =>
   have H := HA.out; clear HA; simp only [slices_Index_bool_bool.l0] at H; by_cases c3 : x8_1 < (l0.length : Int)
   ·rw [if_pos c3] at H; have c3b0 : decide (x8_1 < (l0.length : Int)) = true := decide_eq_true c3; clear c3; by_cases c4 : 0 ≤ x8_1
    ·rw [if_pos c4] at H; have c4b0 : decide (0 ≤ x8_1) = true := decide_eq_true c4; clear c4; by_cases c5 : x8_1 < (l0.length : Int)
     ·rw [if_pos c5] at H; have c5b0 : decide (x8_1 < (l0.length : Int)) = true := decide_eq_true c5; clear c5; by_cases c6 : (a1 == (rdOf false l0 x8_1)) = true
      ·rw [if_pos c6] at H; have c6b0 : (a1 == (rdOf false l0 x8_1)) = true := c6; (try (have c6b1 : decide (a1 = (rdOf false l0 x8_1)) = true := by simpa using c6)); (try (have c6b2 : (a1 == (rdOf false l0 x8_1)) = true := by simpa using c6)); clear c6; obtain rfl := Option.some.inj H; have p190 : 0 ≤ (x8_1 : Int) := of_decide_eq_true (by first | (with_reducible assumption) | assumption); have q190 : x8_1 < (l0.length : Int) := of_decide_eq_true (by first | (with_reducible assumption) | assumption); obtain ⟨ad190, e190, hx190_0⟩ := Kd.at_bool HR0.out x8_1 p190 q190; cases e190; replace p190 := eq_true p190; replace q190 := eq_true q190; go_wp2; go_ret; exact ⟨by first | rfl | (simp; done) | (simp [*]; done), by repeat (first | exact Drawn0.refl _ | apply Drawn0.step)⟩
      ·rw [if_neg c6] at H; have c6b0 : (a1 == (rdOf false l0 x8_1)) = false := by simpa using c6
       (try (have c6b1 : decide (a1 = (rdOf false l0 x8_1)) = false := by simpa using c6)); (try (have c6b2 : (a1 == (rdOf false l0 x8_1)) = false := by simpa using c6)); (try (have c6b3 : ¬ (a1 = (rdOf false l0 x8_1)) := by simpa using c6)); clear c6; have H' := Aside0.mk H; clear H; have p190 : 0 ≤ (x8_1 : Int) := of_decide_eq_true (by first | (with_reducible assumption) | assumption); have q190 : x8_1 < (l0.length : Int) := of_decide_eq_true (by first | (with_reducible assumption) | assumption); obtain ⟨ad190, e190, hx190_0⟩ := Kd.at_bool HR0.out x8_1 p190 q190; cases e190; replace p190 := eq_true p190; replace q190 := eq_true q190; go_wp2; go_roundg k1
       case measure => have := HK1.out; omega
       case rel => exact ⟨(wrap64 (x8_1 + 1)), (by first | rfl | (simp; done) | (simp [*]; done)), H', ⟨by have := HK1.out; omega⟩, by repeat (first | exact Drawn0.refl _ | apply Drawn0.step)⟩
     ·rw [if_neg c5] at H; exact absurd H (by simp)
    ·rw [if_neg c4] at H; exact absurd H (by simp)
   ·rw [if_neg c3] at H; have c3b0 : decide (x8_1 < (l0.length : Int)) = false := decide_eq_false c3; clear c3; obtain rfl := Option.some.inj H; go_wp2; go_ret; exact ⟨by first | rfl | (simp; done) | (simp [*]; done), by repeat (first | exact Drawn0.refl _ | apply Drawn0.step)⟩
def slices_Contains_bool_bool.f (k : Nat) (l0 : List Bool) (a1 : Bool) : Option (Bool) := (slices_Index_bool_bool.f k l0 a1).bind fun t191 => (some (decide (t191 ≥ 0)))
theorem slices_Contains_bool_bool.mono : ∀ a0 a1 k, LeO (slices_Contains_bool_bool.f k a0 a1) (slices_Contains_bool_bool.f (k + 1) a0 a1) := by
 intro a0 a1 k; unfold slices_Contains_bool_bool.f
 repeat' first
   | (with_reducible exact slices_Index_bool_bool.mono _ _ _)
   | (with_reducible exact LeO.refl _)
   | (with_reducible exact LeO.none _)
   | (with_reducible refine LeO.ite ?_ ?_)
   | (with_reducible refine LeO.bind ?_ (fun _ => ?_))
   | exact slices_Index_bool_bool.mono _ _ _
   | exact LeO.none _
   | refine LeO.ite ?_ ?_
   | refine LeO.bind ?_ (fun _ => ?_)
set_option maxHeartbeats 8000000 in
set_option maxRecDepth 100000 in
theorem slices_Contains_bool_bool.calls (k : Nat) (A0 : Option Addr) (c0 : Nat) (l0 : List Bool) (a1 : Bool) (r : Bool) (w : World) (hr0 : Kd.C Kd.bool w A0 l0.length l0) (hc0 : l0.length ≤ c0) (h : slices_Contains_bool_bool.f k l0 a1 = some r) :
  Calls Try.prog 94 #[.slice A0 l0.length c0, .bool a1] w fun e w' => e = .returned (.bool r) ∧ Drawn0 w w' := by
 have HR0 := Aside0.mk hr0; have HC0 := Aside0.mk hc0; clear hr0 hc0; have H : ((slices_Index_bool_bool.f k l0 a1).bind fun t191 => (some (decide (t191 ≥ 0)))) = some r := h; clear h; replace H := Option.bind_eq_some_iff.mp H; obtain ⟨t191, A30, H⟩ := H; replace H : (some (decide (t191 ≥ 0))) = some r := H; have A3 := Aside0.mk A30; clear A30; obtain rfl := Option.some.inj H
 go_enter Try.func94, Try.ntmps94
 go_wp2_with (first | ((with_reducible refine gate_callee (f := 98) rfl ?_); refine goesL_ (some 7) rfl rfl Try.func98 (by kernel_rfl) rfl #[.slice A0 l0.length c0, .bool a1] rfl (by (try simp only [List.map_toArray, List.map_cons, List.map_nil]); first | done | rfl | (simp only [List.length_drop, List.length_take]; rfl)) ?_; (with_reducible refine (slices_Index_bool_bool.calls k _ _ l0 a1 t191 _ ?side1 ?side2 A3.out).mono ?_); (case side1 => repeat (first | exact HR0.out | with_reducible first | refine Kd.C_alloc ?_ _ | refine Kd.C_drewN ?_ _ | refine Kd.C_drew ?_)); (case side2 => exact HC0.out); rintro e w' ⟨rfl, ⟨nd, rfl⟩⟩; refine ⟨_, rfl, ?_⟩)); go_ret; exact ⟨by first | rfl | (simp; done) | (simp [*]; done), by repeat (first | exact Drawn0.refl _ | apply Drawn0.step)⟩
def impl_isAll.f (k : Nat) (l0 : List Bool) : Option (Bool) := (slices_Contains_bool_bool.f k l0 false).bind fun t192 => (some (!t192))
theorem impl_isAll.mono : ∀ a0 k, LeO (impl_isAll.f k a0) (impl_isAll.f (k + 1) a0) := by
 intro a0 k; unfold impl_isAll.f
 repeat' first
   | (with_reducible exact slices_Contains_bool_bool.mono _ _ _)
   | (with_reducible exact LeO.refl _)
   | (with_reducible exact LeO.none _)
   | (with_reducible refine LeO.ite ?_ ?_)
   | (with_reducible refine LeO.bind ?_ (fun _ => ?_))
   | exact slices_Contains_bool_bool.mono _ _ _
   | exact LeO.none _
   | refine LeO.ite ?_ ?_
   | refine LeO.bind ?_ (fun _ => ?_)
set_option maxHeartbeats 8000000 in
set_option maxRecDepth 100000 in
theorem impl_isAll.calls (k : Nat) (A0 : Option Addr) (c0 : Nat) (l0 : List Bool) (r : Bool) (w : World) (hr0 : Kd.C Kd.bool w A0 l0.length l0) (hc0 : l0.length ≤ c0) (h : impl_isAll.f k l0 = some r) :
  Calls Try.prog 83 #[.slice A0 l0.length c0] w fun e w' => e = .returned (.bool r) ∧ Drawn0 w w' := by
 have HR0 := Aside0.mk hr0; have HC0 := Aside0.mk hc0; clear hr0 hc0; have H : ((slices_Contains_bool_bool.f k l0 false).bind fun t192 => (some (!t192))) = some r := h; clear h; replace H := Option.bind_eq_some_iff.mp H; obtain ⟨t192, A20, H⟩ := H; replace H : (some (!t192)) = some r := H; have A2 := Aside0.mk A20; clear A20; obtain rfl := Option.some.inj H
 go_enter Try.func83, Try.ntmps83
 go_wp2_with (first | ((with_reducible refine gate_callee (f := 94) rfl ?_); refine goesL_ (some 4) rfl rfl Try.func94 (by kernel_rfl) rfl #[.slice A0 l0.length c0, .bool false] rfl (by (try simp only [List.map_toArray, List.map_cons, List.map_nil]); first | done | rfl | (simp only [List.length_drop, List.length_take]; rfl)) ?_; (with_reducible refine (slices_Contains_bool_bool.calls k _ _ l0 false t192 _ ?side1 ?side2 A2.out).mono ?_); (case side1 => repeat (first | exact HR0.out | with_reducible first | refine Kd.C_alloc ?_ _ | refine Kd.C_drewN ?_ _ | refine Kd.C_drew ?_)); (case side2 => exact HC0.out); rintro e w' ⟨rfl, ⟨nd, rfl⟩⟩; refine ⟨_, rfl, ?_⟩)); go_ret; exact ⟨by first | rfl | (simp; done) | (simp [*]; done), by repeat (first | exact Drawn0.refl _ | apply Drawn0.step)⟩
mutual
def impl_GoodSession.j0 : Nat → Bool → ByteArray → List Bool → List Bool → ByteArray → Bool → List (S100) → List (S100) → Option (Bool)
 | 0, _, _, _, _, _, _, _, _ => none
 | k + 1, x54, x194000, x194001, x194002, x194003, x194004, x194005, x194006 => if x54 = true then (some false) else (impl_GoodSession.l0 k x194005 (x194005.length : Int) 0 x194000 x194001 x194002 x194003 x194004 x194005 x194006)
def impl_GoodSession.l0 : Nat → List (S100) → Int → Int → ByteArray → List Bool → List Bool → ByteArray → Bool → List (S100) → List (S100) → Option (Bool)
 | 0, _, _, _, _, _, _, _, _, _, _ => none
 | k + 1, x56, x57, x58, x194000, x194001, x194002, x194003, x194004, x194005, x194006 => if x58 < x57 then (if 0 ≤ x58 then (if x58 < (x56.length : Int) then (if ((rd_T100 x56 x58).f0) = 1 then ((impl_within.f ((rd_T100 x56 x58).f1) 0 (wrap64 ((x194002.length : Int) - 1))).bind fun t201 => (if t201 = true then ((impl_segment.f x194000 ((rd_T100 x56 x58).f1)).bind fun t202 => (if ((rd_T100 x56 x58).f2).toList = t202.toList then (if (((rd_T100 x56 x58).f4).length : Int) = 0 then (impl_GoodSession.l0 k x56 x57 (wrap64 (x58 + 1)) x194000 x194001 x194002 x194003 x194004 x194005 x194006) else (some false)) else (some false))) else (some false))) else (some false)) else (none)) else (none)) else (impl_GoodSession.l1 k x194006 (x194006.length : Int) 0 x194000 x194001 x194002 x194003 x194004 x194005 x194006)
def impl_GoodSession.l1 : Nat → List (S100) → Int → Int → ByteArray → List Bool → List Bool → ByteArray → Bool → List (S100) → List (S100) → Option (Bool)
 | 0, _, _, _, _, _, _, _, _, _, _ => none
 | k + 1, x93, x94, x95, x194000, x194001, x194002, x194003, x194004, x194005, x194006 => if x95 < x94 then (if 0 ≤ x95 then (if x95 < (x93.length : Int) then (if ((rd_T100 x93 x95).f0) = 2 then (if ((rd_T100 x93 x95).f1) = 0 then (if ((rd_T100 x93 x95).f2).toList = ([] : List UInt8) then (if (rd_T100 x93 x95).f3 = true then (some false) else ((impl_below.f k ((rd_T100 x93 x95).f4) x194002).bind fun t205 => (if t205 = true then (impl_GoodSession.l1 k x93 x94 (wrap64 (x95 + 1)) x194000 x194001 x194002 x194003 x194004 x194005 x194006) else (some false)))) else (some false)) else (some false)) else (some false)) else (none)) else (none)) else (some true)
end
def impl_GoodSession.f (k : Nat) (a0_0 : ByteArray) (l0_1 : List Bool) (l0_2 : List Bool) (a0_3 : ByteArray) (a0_4 : Bool) (l0_5 : List (S100)) (l0_6 : List (S100)) : Option (Bool) := (impl_isBlock.f a0_0).bind fun t194 => (if t194 = true then ((impl_many.f a0_0).bind fun t195 => (if (l0_2.length : Int) = t195 then ((impl_below.f k l0_1 l0_2).bind fun t196 => (if t196 = true then ((impl_Session_bytes.f a0_0 l0_1 l0_2 a0_3 a0_4 l0_5 l0_6).bind fun t197 => (if a0_3.toList = t197.toList then ((impl_isAll.f k l0_1).bind fun t198 => (if (a0_4 != t198) = true then (impl_GoodSession.j0 k true a0_0 l0_1 l0_2 a0_3 a0_4 l0_5 l0_6) else (if (l0_5.length : Int) > 30 then (impl_GoodSession.j0 k true a0_0 l0_1 l0_2 a0_3 a0_4 l0_5 l0_6) else (impl_GoodSession.j0 k (decide ((l0_6.length : Int) > 30)) a0_0 l0_1 l0_2 a0_3 a0_4 l0_5 l0_6)))) else (impl_GoodSession.j0 k true a0_0 l0_1 l0_2 a0_3 a0_4 l0_5 l0_6))) else (impl_GoodSession.j0 k true a0_0 l0_1 l0_2 a0_3 a0_4 l0_5 l0_6))) else (impl_GoodSession.j0 k true a0_0 l0_1 l0_2 a0_3 a0_4 l0_5 l0_6))) else (impl_GoodSession.j0 k true a0_0 l0_1 l0_2 a0_3 a0_4 l0_5 l0_6))
theorem impl_GoodSession.mono_l : ∀ k, (∀ y0 y1 y2 y3 y4 y5 y6 y7, LeO (impl_GoodSession.j0 k y0 y1 y2 y3 y4 y5 y6 y7) (impl_GoodSession.j0 (k + 1) y0 y1 y2 y3 y4 y5 y6 y7)) ∧ (∀ y0 y1 y2 y3 y4 y5 y6 y7 y8 y9, LeO (impl_GoodSession.l0 k y0 y1 y2 y3 y4 y5 y6 y7 y8 y9) (impl_GoodSession.l0 (k + 1) y0 y1 y2 y3 y4 y5 y6 y7 y8 y9)) ∧ (∀ y0 y1 y2 y3 y4 y5 y6 y7 y8 y9, LeO (impl_GoodSession.l1 k y0 y1 y2 y3 y4 y5 y6 y7 y8 y9) (impl_GoodSession.l1 (k + 1) y0 y1 y2 y3 y4 y5 y6 y7 y8 y9))
 | 0 => ⟨fun _ _ _ _ _ _ _ _ r h => by simp [impl_GoodSession.j0] at h, fun _ _ _ _ _ _ _ _ _ _ r h => by simp [impl_GoodSession.l0] at h, fun _ _ _ _ _ _ _ _ _ _ r h => by simp [impl_GoodSession.l1] at h⟩
 | k + 1 => by
  obtain ⟨ih0, ih1, ih2⟩ := impl_GoodSession.mono_l k; refine ⟨?_, ?_, ?_⟩
  ·intro y0 y1 y2 y3 y4 y5 y6 y7; unfold impl_GoodSession.j0
   repeat' first
   | (with_reducible exact ih0 _ _ _ _ _ _ _ _)
   | (with_reducible exact ih1 _ _ _ _ _ _ _ _ _ _)
   | (with_reducible exact ih2 _ _ _ _ _ _ _ _ _ _)
   | (with_reducible exact impl_below.mono _ _ _)
   | (with_reducible exact impl_isAll.mono _ _)
   | (with_reducible exact LeO.refl _)
   | (with_reducible exact LeO.none _)
   | (with_reducible refine LeO.ite ?_ ?_)
   | (with_reducible refine LeO.bind ?_ (fun _ => ?_))
   | exact ih0 _ _ _ _ _ _ _ _
   | exact ih1 _ _ _ _ _ _ _ _ _ _
   | exact ih2 _ _ _ _ _ _ _ _ _ _
   | exact impl_below.mono _ _ _
   | exact impl_isAll.mono _ _
   | exact LeO.none _
   | refine LeO.ite ?_ ?_
   | refine LeO.bind ?_ (fun _ => ?_)
  ·intro y0 y1 y2 y3 y4 y5 y6 y7 y8 y9; unfold impl_GoodSession.l0
   repeat' first
   | (with_reducible exact ih0 _ _ _ _ _ _ _ _)
   | (with_reducible exact ih1 _ _ _ _ _ _ _ _ _ _)
   | (with_reducible exact ih2 _ _ _ _ _ _ _ _ _ _)
   | (with_reducible exact impl_below.mono _ _ _)
   | (with_reducible exact impl_isAll.mono _ _)
   | (with_reducible exact LeO.refl _)
   | (with_reducible exact LeO.none _)
   | (with_reducible refine LeO.ite ?_ ?_)
   | (with_reducible refine LeO.bind ?_ (fun _ => ?_))
   | exact ih0 _ _ _ _ _ _ _ _
   | exact ih1 _ _ _ _ _ _ _ _ _ _
   | exact ih2 _ _ _ _ _ _ _ _ _ _
   | exact impl_below.mono _ _ _
   | exact impl_isAll.mono _ _
   | exact LeO.none _
   | refine LeO.ite ?_ ?_
   | refine LeO.bind ?_ (fun _ => ?_)
  ·intro y0 y1 y2 y3 y4 y5 y6 y7 y8 y9; unfold impl_GoodSession.l1
   repeat' first
   | (with_reducible exact ih0 _ _ _ _ _ _ _ _)
   | (with_reducible exact ih1 _ _ _ _ _ _ _ _ _ _)
   | (with_reducible exact ih2 _ _ _ _ _ _ _ _ _ _)
   | (with_reducible exact impl_below.mono _ _ _)
   | (with_reducible exact impl_isAll.mono _ _)
   | (with_reducible exact LeO.refl _)
   | (with_reducible exact LeO.none _)
   | (with_reducible refine LeO.ite ?_ ?_)
   | (with_reducible refine LeO.bind ?_ (fun _ => ?_))
   | exact ih0 _ _ _ _ _ _ _ _
   | exact ih1 _ _ _ _ _ _ _ _ _ _
   | exact ih2 _ _ _ _ _ _ _ _ _ _
   | exact impl_below.mono _ _ _
   | exact impl_isAll.mono _ _
   | exact LeO.none _
   | refine LeO.ite ?_ ?_
   | refine LeO.bind ?_ (fun _ => ?_)
theorem impl_GoodSession.mono : ∀ a0 a1 a2 a3 a4 a5 a6 k, LeO (impl_GoodSession.f k a0 a1 a2 a3 a4 a5 a6) (impl_GoodSession.f (k + 1) a0 a1 a2 a3 a4 a5 a6) := by
 intro a0 a1 a2 a3 a4 a5 a6 k; obtain ⟨ih0, ih1, ih2⟩ := impl_GoodSession.mono_l k; unfold impl_GoodSession.f
 repeat' first
   | (with_reducible exact ih0 _ _ _ _ _ _ _ _)
   | (with_reducible exact ih1 _ _ _ _ _ _ _ _ _ _)
   | (with_reducible exact ih2 _ _ _ _ _ _ _ _ _ _)
   | (with_reducible exact impl_below.mono _ _ _)
   | (with_reducible exact impl_isAll.mono _ _)
   | (with_reducible exact LeO.refl _)
   | (with_reducible exact LeO.none _)
   | (with_reducible refine LeO.ite ?_ ?_)
   | (with_reducible refine LeO.bind ?_ (fun _ => ?_))
   | exact ih0 _ _ _ _ _ _ _ _
   | exact ih1 _ _ _ _ _ _ _ _ _ _
   | exact ih2 _ _ _ _ _ _ _ _ _ _
   | exact impl_below.mono _ _ _
   | exact impl_isAll.mono _ _
   | exact LeO.none _
   | refine LeO.ite ?_ ?_
   | refine LeO.bind ?_ (fun _ => ?_)
def impl_GoodSession.T1 : Bool × List (List Nat × List Nat) := (true, [([], []), ([0], [0]), ([1], [1]), ([2], [2]), ([3, 2], [3]), ([4], [4]), ([5, 4], [4, 5]), ([6, 4], [4, 6]), ([4], [4]), ([8, 4], [4, 8]), ([9, 4, 4], [4, 9]), ([7, 10, 4], [4, 7, 10]), ([4, 11], [4, 11]), ([12, 10], [12]), ([13], [13]), ([14, 13], [13, 14]), ([13], [13]), ([16, 13], [13, 16]), ([15, 17, 13, 13], [13, 15, 17]), ([18, 13], [13, 18]), ([13, 19], [13, 19]), ([20, 18], [20]), ([21], [21]), ([22, 21], [21, 22]), ([21], [21]), ([24, 21, 21], [21, 24]), ([23, 25, 21], [21, 23, 25]), ([21, 26], [21, 26]), ([27, 25], [27]), ([28], [28]), ([29, 28], [28, 29]), ([28], [28]), ([31, 28], [28, 31]), ([32, 28, 28], [28, 32]), ([30, 33, 28], [28, 30, 33]), ([28, 34], [28, 34]), ([35, 33], [35]), ([36], [36]), ([37, 36], [36, 37]), ([38, 36], [36, 38]), ([39, 36], [36, 39]), ([36, 40], [36, 40]), ([41, 36], [41]), ([42], [42]), ([43, 42], [42, 43]), ([44, 42], [42, 44]), ([45, 42], [42, 45]), ([42, 46], [42, 46])])
def impl_GoodSession.B1 : List Nat := [0, 1, 3, 7, 15, 31, 63, 127, 31, 287, 799, 2047, 4095, 8191, 16383, 32767, 16383, 81919, 262143, 524287, 1048575, 2097151, 4194303, 8388607, 4194303, 20971519, 67108863, 134217727, 268435455, 536870911, 1073741823, 536870911, 2684354559, 6979321855, 17179869183, 34359738367, 68719476735, 137438953471, 274877906943, 549755813887, 1099511627775, 2199023255551, 4398046511103, 8796093022207, 17592186044415, 35184372088831, 70368744177663, 140737488355327]
theorem impl_GoodSession.tab1 : rtab .any (opsOf Try.f55 1) = impl_GoodSession.T1 := by kernel_rfl
theorem impl_GoodSession.bits1 : waitsOk impl_GoodSession.T1.2 impl_GoodSession.B1 = true := by kernel_rfl
def impl_GoodSession.T6 : Bool × List (List Nat × List Nat) := (true, [([], []), ([0], [0]), ([1], [1]), ([2], [2]), ([3], [3]), ([4, 3], [3, 4]), ([3], [3]), ([6, 3], [3, 6]), ([7, 3], [3, 7]), ([8, 3], [3, 8]), ([5, 9, 3, 3], [3, 5, 9]), ([10, 3], [3, 10]), ([3, 11], [3, 11]), ([12, 10], [12]), ([13], [13]), ([14, 13], [13, 14]), ([13], [13]), ([16, 13], [13, 16]), ([13], [13]), ([18, 13], [13, 18]), ([17, 19, 13, 13], [13, 17, 19]), ([15, 20, 13], [13, 15, 20]), ([13, 21], [13, 21]), ([22, 20], [22]), ([23], [23]), ([24, 23], [23, 24]), ([25, 23], [23, 25]), ([26, 23], [23, 26]), ([23, 27], [23, 27])])
def impl_GoodSession.B6 : List Nat := [0, 1, 3, 7, 15, 31, 15, 79, 207, 463, 1023, 2047, 4095, 8191, 16383, 32767, 16383, 81919, 16383, 278527, 999423, 2097151, 4194303, 8388607, 16777215, 33554431, 67108863, 134217727, 268435455]
theorem impl_GoodSession.tab6 : rtab .any (opsOf Try.f55 6) = impl_GoodSession.T6 := by kernel_rfl
theorem impl_GoodSession.bits6 : waitsOk impl_GoodSession.T6.2 impl_GoodSession.B6 = true := by kernel_rfl
end Go.Proofs.Ytaffjcaohbkmoaa.QFnExactSegmentsLeft
