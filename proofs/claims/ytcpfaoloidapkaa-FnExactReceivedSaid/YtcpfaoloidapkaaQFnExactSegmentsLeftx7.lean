import Derived.Test.YtcpfaoloidapkaaQFnExactSegmentsLeftx0
import Derived.Test.YtcpfaoloidapkaaQFnExactSegmentsLeftx6
namespace Go.Proofs.Ytcpfaoloidapkaa.QFnExactSegmentsLeft
open Go.RowKit Go.Proofs.YtcpfaoloidapkaaW.PrintWords Go.Proofs.YtcpfaoloidapkaaW.PrintLast Go.Proofs.YtcpfaoloidapkaaW.PrintMore
attribute [local go_sem] max2_int min2_int max_two min_two max_three min_three max_four min_four   -- for this text's walks alone
set_option linter.unusedVariables false
set_option linter.unusedSimpArgs false
def impl_isAll.f (k : Nat) (l0 : List Bool) : Option (Bool) := (slices_Contains_bool_bool.f k l0 false).bind fun t217 => (some (!t217))
theorem impl_isAll.mono : ∀ a0 k, LeO (impl_isAll.f k a0) (impl_isAll.f (k + 1) a0) := by
  intro a0 k; unfold impl_isAll.f
  repeat' first
      | (with_reducible exact slices_Contains_bool_bool.mono _ _ _)
      | (with_reducible exact LeO.refl _)
      | (with_reducible exact LeO.none _)
      | (with_reducible refine LeO.ite ?_ ?_)
      | (with_reducible refine LeO.bind ?_ (fun _ => ?_))
      | exact slices_Contains_bool_bool.mono _ _ _
      | exact LeO.none _
      | refine LeO.ite ?_ ?_
      | refine LeO.bind ?_ (fun _ => ?_)
set_option maxHeartbeats 8000000 in
set_option maxRecDepth 100000 in
theorem impl_isAll.calls (k : Nat) (A0 : Option Addr) (c0 : Nat) (l0 : List Bool) (r : Bool) (w : World) (hr0 : Kd.C Kd.bool w A0 l0.length l0) (hc0 : l0.length ≤ c0) (h : impl_isAll.f k l0 = some r) :
    Calls Try.prog 64 #[.slice A0 l0.length c0] w fun e w' => e = .returned (.bool r) ∧ Drawn0 w w' := by
  have HR0 := Aside0.mk hr0; have HC0 := Aside0.mk hc0; clear hr0 hc0; have H : ((slices_Contains_bool_bool.f k l0 false).bind fun t217 => (some (!t217))) = some r := h; clear h; replace H := Option.bind_eq_some_iff.mp H; obtain ⟨t217, A20, H⟩ := H; replace H : (some (!t217)) = some r := H; have A2 := Aside0.mk A20; clear A20; obtain rfl := Option.some.inj H
  go_enter Try.func64, Try.ntmps64
  go_wp2_with (first | ((with_reducible refine gate_callee (f := 89) rfl ?_); refine goesL_ (some 4) rfl rfl Try.func89 (by kernel_rfl) rfl #[.slice A0 l0.length c0, .bool false] rfl (by (try simp only [List.map_toArray, List.map_cons, List.map_nil]); first | done | rfl | (simp only [List.length_drop, List.length_take]; rfl)) ?_; (with_reducible refine (slices_Contains_bool_bool.calls k _ _ l0 false t217 _ ?side1 ?side2 A2.out).mono ?_); (case side1 => repeat (first | exact HR0.out | with_reducible first | refine Kd.C_alloc ?_ _ | refine Kd.C_drewN ?_ _ | refine Kd.C_drew ?_)); (case side2 => exact HC0.out); rintro e w' ⟨rfl, ⟨nd, rfl⟩⟩; refine ⟨_, rfl, ?_⟩)); go_ret; exact ⟨by first | rfl | (simp; done) | (simp [*]; done), by repeat (first | exact Drawn0.refl _ | apply Drawn0.step)⟩
mutual
def impl_GoodSession.j0 : Nat → Bool → ByteArray → List Bool → List Bool → ByteArray → Bool → List (S84) → List (S84) → Option (Bool)
 | 0, _, _, _, _, _, _, _, _ => none
 | k + 1, x54, x219000, x219001, x219002, x219003, x219004, x219005, x219006 => if x54 = true then (some false) else (impl_GoodSession.l0 k x219005 (x219005.length : Int) 0 x219000 x219001 x219002 x219003 x219004 x219005 x219006)
def impl_GoodSession.l0 : Nat → List (S84) → Int → Int → ByteArray → List Bool → List Bool → ByteArray → Bool → List (S84) → List (S84) → Option (Bool)
 | 0, _, _, _, _, _, _, _, _, _, _ => none
 | k + 1, x56, x57, x58, x219000, x219001, x219002, x219003, x219004, x219005, x219006 => if x58 < x57 then (if 0 ≤ x58 then (if x58 < (x56.length : Int) then (if ((rd_T84 x56 x58).f0) = 1 then ((impl_within.f ((rd_T84 x56 x58).f1) 0 (wrap64 ((x219002.length : Int) - 1))).bind fun t226 => (if t226 = true then ((impl_segment.f x219000 ((rd_T84 x56 x58).f1)).bind fun t227 => (if ((rd_T84 x56 x58).f2).toList = t227.toList then (impl_GoodSession.j2 k x56 x57 x58 ((((rd_T84 x56 x58).f4).length : Int) != 0) x219000 x219001 x219002 x219003 x219004 x219005 x219006) else (impl_GoodSession.j2 k x56 x57 x58 true x219000 x219001 x219002 x219003 x219004 x219005 x219006))) else (impl_GoodSession.j2 k x56 x57 x58 true x219000 x219001 x219002 x219003 x219004 x219005 x219006))) else (impl_GoodSession.j2 k x56 x57 x58 true x219000 x219001 x219002 x219003 x219004 x219005 x219006)) else (none)) else (none)) else (impl_GoodSession.l1 k x219006 (x219006.length : Int) 0 x219000 x219001 x219002 x219003 x219004 x219005 x219006)
def impl_GoodSession.j2 : Nat → List (S84) → Int → Int → Bool → ByteArray → List Bool → List Bool → ByteArray → Bool → List (S84) → List (S84) → Option (Bool)
 | 0, _, _, _, _, _, _, _, _, _, _, _ => none
 | k + 1, x56, x57, x58, x90, x219000, x219001, x219002, x219003, x219004, x219005, x219006 => if x90 = true then (some false) else (impl_GoodSession.l0 k x56 x57 (wrap64 (x58 + 1)) x219000 x219001 x219002 x219003 x219004 x219005 x219006)
def impl_GoodSession.l1 : Nat → List (S84) → Int → Int → ByteArray → List Bool → List Bool → ByteArray → Bool → List (S84) → List (S84) → Option (Bool)
 | 0, _, _, _, _, _, _, _, _, _, _ => none
 | k + 1, x93, x94, x95, x219000, x219001, x219002, x219003, x219004, x219005, x219006 => if x95 < x94 then (if 0 ≤ x95 then (if x95 < (x93.length : Int) then (if ((rd_T84 x93 x95).f0) = 2 then (if ((rd_T84 x93 x95).f1) = 0 then (if ((rd_T84 x93 x95).f2).toList = ([] : List UInt8) then (if (rd_T84 x93 x95).f3 = true then (impl_GoodSession.j4 k x93 x94 x95 true x219000 x219001 x219002 x219003 x219004 x219005 x219006) else ((impl_below.f k ((rd_T84 x93 x95).f4) x219002).bind fun t230 => (impl_GoodSession.j4 k x93 x94 x95 (!t230) x219000 x219001 x219002 x219003 x219004 x219005 x219006))) else (impl_GoodSession.j4 k x93 x94 x95 true x219000 x219001 x219002 x219003 x219004 x219005 x219006)) else (impl_GoodSession.j4 k x93 x94 x95 true x219000 x219001 x219002 x219003 x219004 x219005 x219006)) else (impl_GoodSession.j4 k x93 x94 x95 true x219000 x219001 x219002 x219003 x219004 x219005 x219006)) else (none)) else (none)) else (some true)
def impl_GoodSession.j4 : Nat → List (S84) → Int → Int → Bool → ByteArray → List Bool → List Bool → ByteArray → Bool → List (S84) → List (S84) → Option (Bool)
 | 0, _, _, _, _, _, _, _, _, _, _, _ => none
 | k + 1, x93, x94, x95, x123, x219000, x219001, x219002, x219003, x219004, x219005, x219006 => if x123 = true then (some false) else (impl_GoodSession.l1 k x93 x94 (wrap64 (x95 + 1)) x219000 x219001 x219002 x219003 x219004 x219005 x219006)
end
def impl_GoodSession.f (k : Nat) (a0_0 : ByteArray) (l0_1 : List Bool) (l0_2 : List Bool) (a0_3 : ByteArray) (a0_4 : Bool) (l0_5 : List (S84)) (l0_6 : List (S84)) : Option (Bool) := (impl_isBlock.f a0_0).bind fun t219 => (if t219 = true then ((impl_many.f a0_0).bind fun t220 => (if (l0_2.length : Int) = t220 then ((impl_below.f k l0_1 l0_2).bind fun t221 => (if t221 = true then ((impl_Session_bytes.f a0_0 l0_1 l0_2 a0_3 a0_4 l0_5 l0_6).bind fun t222 => (if a0_3.toList = t222.toList then ((impl_isAll.f k l0_1).bind fun t223 => (if (a0_4 != t223) = true then (impl_GoodSession.j0 k true a0_0 l0_1 l0_2 a0_3 a0_4 l0_5 l0_6) else (if (l0_5.length : Int) > 30 then (impl_GoodSession.j0 k true a0_0 l0_1 l0_2 a0_3 a0_4 l0_5 l0_6) else (impl_GoodSession.j0 k (decide ((l0_6.length : Int) > 30)) a0_0 l0_1 l0_2 a0_3 a0_4 l0_5 l0_6)))) else (impl_GoodSession.j0 k true a0_0 l0_1 l0_2 a0_3 a0_4 l0_5 l0_6))) else (impl_GoodSession.j0 k true a0_0 l0_1 l0_2 a0_3 a0_4 l0_5 l0_6))) else (impl_GoodSession.j0 k true a0_0 l0_1 l0_2 a0_3 a0_4 l0_5 l0_6))) else (impl_GoodSession.j0 k true a0_0 l0_1 l0_2 a0_3 a0_4 l0_5 l0_6))
theorem impl_GoodSession.mono_l : ∀ k, (∀ y0 y1 y2 y3 y4 y5 y6 y7, LeO (impl_GoodSession.j0 k y0 y1 y2 y3 y4 y5 y6 y7) (impl_GoodSession.j0 (k + 1) y0 y1 y2 y3 y4 y5 y6 y7)) ∧ (∀ y0 y1 y2 y3 y4 y5 y6 y7 y8 y9, LeO (impl_GoodSession.l0 k y0 y1 y2 y3 y4 y5 y6 y7 y8 y9) (impl_GoodSession.l0 (k + 1) y0 y1 y2 y3 y4 y5 y6 y7 y8 y9)) ∧ (∀ y0 y1 y2 y3 y4 y5 y6 y7 y8 y9 y10, LeO (impl_GoodSession.j2 k y0 y1 y2 y3 y4 y5 y6 y7 y8 y9 y10) (impl_GoodSession.j2 (k + 1) y0 y1 y2 y3 y4 y5 y6 y7 y8 y9 y10)) ∧ (∀ y0 y1 y2 y3 y4 y5 y6 y7 y8 y9, LeO (impl_GoodSession.l1 k y0 y1 y2 y3 y4 y5 y6 y7 y8 y9) (impl_GoodSession.l1 (k + 1) y0 y1 y2 y3 y4 y5 y6 y7 y8 y9)) ∧ (∀ y0 y1 y2 y3 y4 y5 y6 y7 y8 y9 y10, LeO (impl_GoodSession.j4 k y0 y1 y2 y3 y4 y5 y6 y7 y8 y9 y10) (impl_GoodSession.j4 (k + 1) y0 y1 y2 y3 y4 y5 y6 y7 y8 y9 y10))
 | 0 => ⟨fun _ _ _ _ _ _ _ _ r h => by simp [impl_GoodSession.j0] at h, fun _ _ _ _ _ _ _ _ _ _ r h => by simp [impl_GoodSession.l0] at h, fun _ _ _ _ _ _ _ _ _ _ _ r h => by simp [impl_GoodSession.j2] at h, fun _ _ _ _ _ _ _ _ _ _ r h => by simp [impl_GoodSession.l1] at h, fun _ _ _ _ _ _ _ _ _ _ _ r h => by simp [impl_GoodSession.j4] at h⟩
 | k + 1 => by
  obtain ⟨ih0, ih1, ih2, ih3, ih4⟩ := impl_GoodSession.mono_l k; refine ⟨?_, ?_, ?_, ?_, ?_⟩
  ·intro y0 y1 y2 y3 y4 y5 y6 y7; unfold impl_GoodSession.j0
   repeat' first
   | (with_reducible exact ih0 _ _ _ _ _ _ _ _)
   | (with_reducible exact ih1 _ _ _ _ _ _ _ _ _ _)
   | (with_reducible exact ih2 _ _ _ _ _ _ _ _ _ _ _)
   | (with_reducible exact ih3 _ _ _ _ _ _ _ _ _ _)
   | (with_reducible exact ih4 _ _ _ _ _ _ _ _ _ _ _)
   | (with_reducible exact impl_below.mono _ _ _)
   | (with_reducible exact impl_isAll.mono _ _)
   | (with_reducible exact LeO.refl _)
   | (with_reducible exact LeO.none _)
   | (with_reducible refine LeO.ite ?_ ?_)
   | (with_reducible refine LeO.bind ?_ (fun _ => ?_))
   | exact ih0 _ _ _ _ _ _ _ _
   | exact ih1 _ _ _ _ _ _ _ _ _ _
   | exact ih2 _ _ _ _ _ _ _ _ _ _ _
   | exact ih3 _ _ _ _ _ _ _ _ _ _
   | exact ih4 _ _ _ _ _ _ _ _ _ _ _
   | exact impl_below.mono _ _ _
   | exact impl_isAll.mono _ _
   | exact LeO.none _
   | refine LeO.ite ?_ ?_
   | refine LeO.bind ?_ (fun _ => ?_)
  ·intro y0 y1 y2 y3 y4 y5 y6 y7 y8 y9; unfold impl_GoodSession.l0
   repeat' first
   | (with_reducible exact ih0 _ _ _ _ _ _ _ _)
   | (with_reducible exact ih1 _ _ _ _ _ _ _ _ _ _)
   | (with_reducible exact ih2 _ _ _ _ _ _ _ _ _ _ _)
   | (with_reducible exact ih3 _ _ _ _ _ _ _ _ _ _)
   | (with_reducible exact ih4 _ _ _ _ _ _ _ _ _ _ _)
   | (with_reducible exact impl_below.mono _ _ _)
   | (with_reducible exact impl_isAll.mono _ _)
   | (with_reducible exact LeO.refl _)
   | (with_reducible exact LeO.none _)
   | (with_reducible refine LeO.ite ?_ ?_)
   | (with_reducible refine LeO.bind ?_ (fun _ => ?_))
   | exact ih0 _ _ _ _ _ _ _ _
   | exact ih1 _ _ _ _ _ _ _ _ _ _
   | exact ih2 _ _ _ _ _ _ _ _ _ _ _
   | exact ih3 _ _ _ _ _ _ _ _ _ _
   | exact ih4 _ _ _ _ _ _ _ _ _ _ _
   | exact impl_below.mono _ _ _
   | exact impl_isAll.mono _ _
   | exact LeO.none _
   | refine LeO.ite ?_ ?_
   | refine LeO.bind ?_ (fun _ => ?_)
  ·intro y0 y1 y2 y3 y4 y5 y6 y7 y8 y9 y10; unfold impl_GoodSession.j2
   repeat' first
   | (with_reducible exact ih0 _ _ _ _ _ _ _ _)
   | (with_reducible exact ih1 _ _ _ _ _ _ _ _ _ _)
   | (with_reducible exact ih2 _ _ _ _ _ _ _ _ _ _ _)
   | (with_reducible exact ih3 _ _ _ _ _ _ _ _ _ _)
   | (with_reducible exact ih4 _ _ _ _ _ _ _ _ _ _ _)
   | (with_reducible exact impl_below.mono _ _ _)
   | (with_reducible exact impl_isAll.mono _ _)
   | (with_reducible exact LeO.refl _)
   | (with_reducible exact LeO.none _)
   | (with_reducible refine LeO.ite ?_ ?_)
   | (with_reducible refine LeO.bind ?_ (fun _ => ?_))
   | exact ih0 _ _ _ _ _ _ _ _
   | exact ih1 _ _ _ _ _ _ _ _ _ _
   | exact ih2 _ _ _ _ _ _ _ _ _ _ _
   | exact ih3 _ _ _ _ _ _ _ _ _ _
   | exact ih4 _ _ _ _ _ _ _ _ _ _ _
   | exact impl_below.mono _ _ _
   | exact impl_isAll.mono _ _
   | exact LeO.none _
   | refine LeO.ite ?_ ?_
   | refine LeO.bind ?_ (fun _ => ?_)
  ·intro y0 y1 y2 y3 y4 y5 y6 y7 y8 y9; unfold impl_GoodSession.l1
   repeat' first
   | (with_reducible exact ih0 _ _ _ _ _ _ _ _)
   | (with_reducible exact ih1 _ _ _ _ _ _ _ _ _ _)
   | (with_reducible exact ih2 _ _ _ _ _ _ _ _ _ _ _)
   | (with_reducible exact ih3 _ _ _ _ _ _ _ _ _ _)
   | (with_reducible exact ih4 _ _ _ _ _ _ _ _ _ _ _)
   | (with_reducible exact impl_below.mono _ _ _)
   | (with_reducible exact impl_isAll.mono _ _)
   | (with_reducible exact LeO.refl _)
   | (with_reducible exact LeO.none _)
   | (with_reducible refine LeO.ite ?_ ?_)
   | (with_reducible refine LeO.bind ?_ (fun _ => ?_))
   | exact ih0 _ _ _ _ _ _ _ _
   | exact ih1 _ _ _ _ _ _ _ _ _ _
   | exact ih2 _ _ _ _ _ _ _ _ _ _ _
   | exact ih3 _ _ _ _ _ _ _ _ _ _
   | exact ih4 _ _ _ _ _ _ _ _ _ _ _
   | exact impl_below.mono _ _ _
   | exact impl_isAll.mono _ _
   | exact LeO.none _
   | refine LeO.ite ?_ ?_
   | refine LeO.bind ?_ (fun _ => ?_)
  ·intro y0 y1 y2 y3 y4 y5 y6 y7 y8 y9 y10; unfold impl_GoodSession.j4
   repeat' first
   | (with_reducible exact ih0 _ _ _ _ _ _ _ _)
   | (with_reducible exact ih1 _ _ _ _ _ _ _ _ _ _)
   | (with_reducible exact ih2 _ _ _ _ _ _ _ _ _ _ _)
   | (with_reducible exact ih3 _ _ _ _ _ _ _ _ _ _)
   | (with_reducible exact ih4 _ _ _ _ _ _ _ _ _ _ _)
   | (with_reducible exact impl_below.mono _ _ _)
   | (with_reducible exact impl_isAll.mono _ _)
   | (with_reducible exact LeO.refl _)
   | (with_reducible exact LeO.none _)
   | (with_reducible refine LeO.ite ?_ ?_)
   | (with_reducible refine LeO.bind ?_ (fun _ => ?_))
   | exact ih0 _ _ _ _ _ _ _ _
   | exact ih1 _ _ _ _ _ _ _ _ _ _
   | exact ih2 _ _ _ _ _ _ _ _ _ _ _
   | exact ih3 _ _ _ _ _ _ _ _ _ _
   | exact ih4 _ _ _ _ _ _ _ _ _ _ _
   | exact impl_below.mono _ _ _
   | exact impl_isAll.mono _ _
   | exact LeO.none _
   | refine LeO.ite ?_ ?_
   | refine LeO.bind ?_ (fun _ => ?_)
theorem impl_GoodSession.mono : ∀ a0 a1 a2 a3 a4 a5 a6 k, LeO (impl_GoodSession.f k a0 a1 a2 a3 a4 a5 a6) (impl_GoodSession.f (k + 1) a0 a1 a2 a3 a4 a5 a6) := by
 intro a0 a1 a2 a3 a4 a5 a6 k; obtain ⟨ih0, ih1, ih2, ih3, ih4⟩ := impl_GoodSession.mono_l k; unfold impl_GoodSession.f
 repeat' first
   | (with_reducible exact ih0 _ _ _ _ _ _ _ _)
   | (with_reducible exact ih1 _ _ _ _ _ _ _ _ _ _)
   | (with_reducible exact ih2 _ _ _ _ _ _ _ _ _ _ _)
   | (with_reducible exact ih3 _ _ _ _ _ _ _ _ _ _)
   | (with_reducible exact ih4 _ _ _ _ _ _ _ _ _ _ _)
   | (with_reducible exact impl_below.mono _ _ _)
   | (with_reducible exact impl_isAll.mono _ _)
   | (with_reducible exact LeO.refl _)
   | (with_reducible exact LeO.none _)
   | (with_reducible refine LeO.ite ?_ ?_)
   | (with_reducible refine LeO.bind ?_ (fun _ => ?_))
   | exact ih0 _ _ _ _ _ _ _ _
   | exact ih1 _ _ _ _ _ _ _ _ _ _
   | exact ih2 _ _ _ _ _ _ _ _ _ _ _
   | exact ih3 _ _ _ _ _ _ _ _ _ _
   | exact ih4 _ _ _ _ _ _ _ _ _ _ _
   | exact impl_below.mono _ _ _
   | exact impl_isAll.mono _ _
   | exact LeO.none _
   | refine LeO.ite ?_ ?_
   | refine LeO.bind ?_ (fun _ => ?_)
def impl_GoodSession.T1 : Bool × List (List Nat × List Nat) := (true, [([], []), ([0], [0]), ([1], [1]), ([2], [2]), ([3, 2], [3]), ([4], [4]), ([5, 4], [4, 5]), ([6, 4], [4, 6]), ([4], [4]), ([8, 4], [4, 8]), ([9, 4, 4], [4, 9]), ([7, 10, 4], [4, 7, 10]), ([4, 11], [4, 11]), ([12, 10], [12]), ([13], [13]), ([14, 13], [13, 14]), ([13], [13]), ([16, 13], [13, 16]), ([15, 17, 13, 13], [13, 15, 17]), ([18, 13], [13, 18]), ([13, 19], [13, 19]), ([20, 18], [20]), ([21], [21]), ([22, 21], [21, 22]), ([21], [21]), ([24, 21, 21], [21, 24]), ([23, 25, 21], [21, 23, 25]), ([21, 26], [21, 26]), ([27, 25], [27]), ([28], [28]), ([29, 28], [28, 29]), ([28], [28]), ([31, 28], [28, 31]), ([32, 28, 28], [28, 32]), ([30, 33, 28], [28, 30, 33]), ([28, 34], [28, 34]), ([35, 33], [35]), ([36], [36]), ([37, 36], [36, 37]), ([38, 36], [36, 38]), ([39, 36], [36, 39]), ([36, 40], [36, 40]), ([41, 36], [41]), ([42], [42]), ([43, 42], [42, 43]), ([44, 42], [42, 44]), ([45, 42], [42, 45]), ([42, 46], [42, 46])])
def impl_GoodSession.B1 : List Nat := [0, 1, 3, 7, 15, 31, 63, 127, 31, 287, 799, 2047, 4095, 8191, 16383, 32767, 16383, 81919, 262143, 524287, 1048575, 2097151, 4194303, 8388607, 4194303, 20971519, 67108863, 134217727, 268435455, 536870911, 1073741823, 536870911, 2684354559, 6979321855, 17179869183, 34359738367, 68719476735, 137438953471, 274877906943, 549755813887, 1099511627775, 2199023255551, 4398046511103, 8796093022207, 17592186044415, 35184372088831, 70368744177663, 140737488355327]
theorem impl_GoodSession.tab1 : rtab .any (opsOf Try.f24 1) = impl_GoodSession.T1 := by kernel_rfl
theorem impl_GoodSession.bits1 : waitsOk impl_GoodSession.T1.2 impl_GoodSession.B1 = true := by kernel_rfl
def impl_GoodSession.T6 : Bool × List (List Nat × List Nat) := (true, [([], []), ([0], [0]), ([1], [1]), ([2], [2]), ([3], [3]), ([4, 3], [3, 4]), ([3], [3]), ([6, 3], [3, 6]), ([7, 3], [3, 7]), ([8, 3], [3, 8]), ([5, 9, 3, 3], [3, 5, 9]), ([10, 3], [3, 10]), ([3, 11], [3, 11]), ([12, 10], [12]), ([13], [13]), ([14, 13], [13, 14]), ([13], [13]), ([16, 13], [13, 16]), ([13], [13]), ([18, 13], [13, 18]), ([17, 19, 13, 13], [13, 17, 19]), ([15, 20, 13], [13, 15, 20]), ([13, 21], [13, 21]), ([22, 20], [22]), ([23], [23]), ([24, 23], [23, 24]), ([25, 23], [23, 25]), ([26, 23], [23, 26]), ([23, 27], [23, 27])])
def impl_GoodSession.B6 : List Nat := [0, 1, 3, 7, 15, 31, 15, 79, 207, 463, 1023, 2047, 4095, 8191, 16383, 32767, 16383, 81919, 16383, 278527, 999423, 2097151, 4194303, 8388607, 16777215, 33554431, 67108863, 134217727, 268435455]
theorem impl_GoodSession.tab6 : rtab .any (opsOf Try.f24 6) = impl_GoodSession.T6 := by kernel_rfl
theorem impl_GoodSession.bits6 : waitsOk impl_GoodSession.T6.2 impl_GoodSession.B6 = true := by kernel_rfl
end Go.Proofs.Ytcpfaoloidapkaa.QFnExactSegmentsLeft
