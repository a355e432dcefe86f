import Derived.Test.YtlkbbolkadkedaaQFnCoversx0
import Derived.Test.YtlkbbolkadkedaaQFnCoversx2
import Derived.Test.YtlkbbolkadkedaaQFnCoversx4
import Derived.Test.YtlkbbolkadkedaaSr
import Derived.Test.YtlkbbolkadkedaaSq
namespace Go.Proofs.Ytlkbbolkadkedaa.QFnCovers
open Go.RowKit Go.Proofs.YtlkbbolkadkedaaW.PrintWords Go.Proofs.YtlkbbolkadkedaaW.PrintLast Go.Proofs.YtlkbbolkadkedaaW.PrintMore
attribute [local go_sem] max2_int min2_int max_two min_two max_three min_three max_four min_four   -- for this text's walks alone
set_option linter.unusedVariables false
set_option linter.unusedSimpArgs false
mutual
def spec_AddPiece.j0 : Nat → Bool → List (S46) → Int → Int → Bool → Int → Int → Int → Int → Int → Int → ByteArray → Option ((List (S46)) × Bool)
 | 0, _, _, _, _, _, _, _, _, _, _, _, _ => none
 | k + 1, x20, x191000, x192000, x192001, x192002, x192003, x192004, x192005, x192006, x192007, x192008, x192009 => if x20 = true then (some (([] : List (S46)), false)) else (spec_AddPiece.l0 k 0 x191000 x192000 x192001 x192002 x192003 x192004 x192005 x192006 x192007 x192008 x192009)
def spec_AddPiece.j2 : Nat → Int → List (S46) → Int → Int → Bool → Int → Int → Int → Int → Int → Int → ByteArray → Option ((List (S46)) × Bool)
 | 0, _, _, _, _, _, _, _, _, _, _, _, _ => none
 | k + 1, x6, x191000, x192000, x192001, x192002, x192003, x192004, x192005, x192006, x192007, x192008, x192009 => (some (([] : List (S46)) : List (S46))).bind fun y197 => (if 0 ≤ x6 then (if x6 ≤ (x191000.length : Int) then ((some (x191000.take (x6 : Int).toNat : List (S46))).bind fun y200 => (if y197.length + y200.length < 1599289640401 then ((some (y197 ++ y200 : List (S46))).bind fun y204 => (if x6 = (x191000.length : Int) then (spec_AddPiece.j3 k x6 true x191000 x192000 x192001 x192002 x192003 x192004 x192005 x192006 x192007 x192008 x192009 y204) else (if x6 < (x191000.length : Int) then ((spec_l4Before.f x192000 x192001 x192002 x192003 x192004 x192005 x192006 x192007 x192008 x192009 ((rd_T46 x191000 x6).f0) ((rd_T46 x191000 x6).f1) ((rd_T46 x191000 x6).f2) ((rd_T46 x191000 x6).f3) ((rd_T46 x191000 x6).f4) ((rd_T46 x191000 x6).f5) ((rd_T46 x191000 x6).f6) ((rd_T46 x191000 x6).f7) ((rd_T46 x191000 x6).f8) ((rd_T46 x191000 x6).f9)).bind fun t209 => (spec_AddPiece.j3 k x6 t209 x191000 x192000 x192001 x192002 x192003 x192004 x192005 x192006 x192007 x192008 x192009 y204)) else (none)))) else (none))) else (none)) else (none))
def spec_AddPiece.j3 : Nat → Int → Bool → List (S46) → Int → Int → Bool → Int → Int → Int → Int → Int → Int → ByteArray → List (S46) → Option ((List (S46)) × Bool)
 | 0, _, _, _, _, _, _, _, _, _, _, _, _, _, _ => none
 | k + 1, x6, x58, x191000, x192000, x192001, x192002, x192003, x192004, x192005, x192006, x192007, x192008, x192009, x208000 => if x58 = true then (if x208000.length < 1599289640401 then (spec_AddPiece.j4 k x6 x191000 (x208000 ++ [(⟨x192000, x192001, x192002, x192003, x192004, x192005, x192006, x192007, x192008, x192009⟩ : S46)])) else (none)) else (if 0 ≤ x6 then (if x6 < (x191000.length : Int) then ((spec_l4Same.f x192000 x192001 x192002 x192003 x192004 x192005 x192006 x192007 x192008 x192009 ((rd_T46 x191000 x6).f0) ((rd_T46 x191000 x6).f1) ((rd_T46 x191000 x6).f2) ((rd_T46 x191000 x6).f3) ((rd_T46 x191000 x6).f4) ((rd_T46 x191000 x6).f5) ((rd_T46 x191000 x6).f6) ((rd_T46 x191000 x6).f7) ((rd_T46 x191000 x6).f8) ((rd_T46 x191000 x6).f9)).bind fun t214 => (if t214 = true then (if x192009.toList = ((rd_T46 x191000 x6).f9).toList then (spec_AddPiece.j4 k x6 x191000 x208000) else (some (([] : List (S46)), false))) else (some (([] : List (S46)), false)))) else (none)) else (none))
def spec_AddPiece.j4 : Nat → Int → List (S46) → List (S46) → Option ((List (S46)) × Bool)
 | 0, _, _, _ => none
 | k + 1, x6, x191000, x208000 => if 0 ≤ x6 then (if x6 ≤ (x191000.length : Int) then ((some (x191000.drop (x6 : Int).toNat : List (S46))).bind fun y216 => (if x208000.length + y216.length < 1599289640401 then ((some (x208000 ++ y216 : List (S46))).bind fun y220 => ((spec_GoodPile.f k y220).bind fun t223 => (if t223 = true then (some (y220, true)) else (some (([] : List (S46)), false))))) else (none))) else (none)) else (none)
def spec_AddPiece.l0 : Nat → Int → List (S46) → Int → Int → Bool → Int → Int → Int → Int → Int → Int → ByteArray → Option ((List (S46)) × Bool)
 | 0, _, _, _, _, _, _, _, _, _, _, _, _ => none
 | k + 1, x6, x191000, x192000, x192001, x192002, x192003, x192004, x192005, x192006, x192007, x192008, x192009 => if x6 < (x191000.length : Int) then (if 0 ≤ x6 then ((spec_l4Before.f ((rd_T46 x191000 x6).f0) ((rd_T46 x191000 x6).f1) ((rd_T46 x191000 x6).f2) ((rd_T46 x191000 x6).f3) ((rd_T46 x191000 x6).f4) ((rd_T46 x191000 x6).f5) ((rd_T46 x191000 x6).f6) ((rd_T46 x191000 x6).f7) ((rd_T46 x191000 x6).f8) ((rd_T46 x191000 x6).f9) x192000 x192001 x192002 x192003 x192004 x192005 x192006 x192007 x192008 x192009).bind fun t196 => (if t196 = true then (spec_AddPiece.l0 k (wrap64 (x6 + 1)) x191000 x192000 x192001 x192002 x192003 x192004 x192005 x192006 x192007 x192008 x192009) else (spec_AddPiece.j2 k x6 x191000 x192000 x192001 x192002 x192003 x192004 x192005 x192006 x192007 x192008 x192009))) else (none)) else (spec_AddPiece.j2 k x6 x191000 x192000 x192001 x192002 x192003 x192004 x192005 x192006 x192007 x192008 x192009)
end
def spec_AddPiece.f (k : Nat) (l0_0 : List (S46)) (a1_0 : Int) (a1_1 : Int) (a1_2 : Bool) (a1_3 : Int) (a1_4 : Int) (a1_5 : Int) (a1_6 : Int) (a1_7 : Int) (a1_8 : Int) (a1_9 : ByteArray) : Option ((List (S46)) × Bool) := (spec_GoodPile.f k l0_0).bind fun t193 => (if t193 = true then ((spec_GoodBundle.f k a1_0 a1_1 a1_2 a1_3 a1_4 a1_5 a1_6 a1_7 a1_8 a1_9).bind fun t194 => (if t194 = true then (spec_AddPiece.j0 k (a1_8 == 0) l0_0 a1_0 a1_1 a1_2 a1_3 a1_4 a1_5 a1_6 a1_7 a1_8 a1_9) else (spec_AddPiece.j0 k true l0_0 a1_0 a1_1 a1_2 a1_3 a1_4 a1_5 a1_6 a1_7 a1_8 a1_9))) else (spec_AddPiece.j0 k true l0_0 a1_0 a1_1 a1_2 a1_3 a1_4 a1_5 a1_6 a1_7 a1_8 a1_9))
theorem spec_AddPiece.mono_l : ∀ k, (∀ y0 y1 y2 y3 y4 y5 y6 y7 y8 y9 y10 y11, LeO (spec_AddPiece.j0 k y0 y1 y2 y3 y4 y5 y6 y7 y8 y9 y10 y11) (spec_AddPiece.j0 (k + 1) y0 y1 y2 y3 y4 y5 y6 y7 y8 y9 y10 y11)) ∧ (∀ y0 y1 y2 y3 y4 y5 y6 y7 y8 y9 y10 y11, LeO (spec_AddPiece.j2 k y0 y1 y2 y3 y4 y5 y6 y7 y8 y9 y10 y11) (spec_AddPiece.j2 (k + 1) y0 y1 y2 y3 y4 y5 y6 y7 y8 y9 y10 y11)) ∧ (∀ y0 y1 y2 y3 y4 y5 y6 y7 y8 y9 y10 y11 y12 y13, LeO (spec_AddPiece.j3 k y0 y1 y2 y3 y4 y5 y6 y7 y8 y9 y10 y11 y12 y13) (spec_AddPiece.j3 (k + 1) y0 y1 y2 y3 y4 y5 y6 y7 y8 y9 y10 y11 y12 y13)) ∧ (∀ y0 y1 y2, LeO (spec_AddPiece.j4 k y0 y1 y2) (spec_AddPiece.j4 (k + 1) y0 y1 y2)) ∧ (∀ y0 y1 y2 y3 y4 y5 y6 y7 y8 y9 y10 y11, LeO (spec_AddPiece.l0 k y0 y1 y2 y3 y4 y5 y6 y7 y8 y9 y10 y11) (spec_AddPiece.l0 (k + 1) y0 y1 y2 y3 y4 y5 y6 y7 y8 y9 y10 y11))
 | 0 => ⟨fun _ _ _ _ _ _ _ _ _ _ _ _ r h => by simp [spec_AddPiece.j0] at h, fun _ _ _ _ _ _ _ _ _ _ _ _ r h => by simp [spec_AddPiece.j2] at h, fun _ _ _ _ _ _ _ _ _ _ _ _ _ _ r h => by simp [spec_AddPiece.j3] at h, fun _ _ _ r h => by simp [spec_AddPiece.j4] at h, fun _ _ _ _ _ _ _ _ _ _ _ _ r h => by simp [spec_AddPiece.l0] at h⟩
 | k + 1 => by
  obtain ⟨ih0, ih1, ih2, ih3, ih4⟩ := spec_AddPiece.mono_l k; refine ⟨?_, ?_, ?_, ?_, ?_⟩
  ·intro y0 y1 y2 y3 y4 y5 y6 y7 y8 y9 y10 y11; unfold spec_AddPiece.j0
   repeat' first
   | (with_reducible exact ih0 _ _ _ _ _ _ _ _ _ _ _ _)
   | (with_reducible exact ih1 _ _ _ _ _ _ _ _ _ _ _ _)
   | (with_reducible exact ih2 _ _ _ _ _ _ _ _ _ _ _ _ _ _)
   | (with_reducible exact ih3 _ _ _)
   | (with_reducible exact ih4 _ _ _ _ _ _ _ _ _ _ _ _)
   | (with_reducible exact spec_GoodBundle.mono _ _ _ _ _ _ _ _ _ _ _)
   | (with_reducible exact spec_GoodPile.mono _ _)
   | (with_reducible exact LeO.refl _)
   | (with_reducible exact LeO.none _)
   | (with_reducible refine LeO.ite ?_ ?_)
   | (with_reducible refine LeO.bind ?_ (fun _ => ?_))
   | exact ih0 _ _ _ _ _ _ _ _ _ _ _ _
   | exact ih1 _ _ _ _ _ _ _ _ _ _ _ _
   | exact ih2 _ _ _ _ _ _ _ _ _ _ _ _ _ _
   | exact ih3 _ _ _
   | exact ih4 _ _ _ _ _ _ _ _ _ _ _ _
   | exact spec_GoodBundle.mono _ _ _ _ _ _ _ _ _ _ _
   | exact spec_GoodPile.mono _ _
   | exact LeO.none _
   | refine LeO.ite ?_ ?_
   | refine LeO.bind ?_ (fun _ => ?_)
  ·intro y0 y1 y2 y3 y4 y5 y6 y7 y8 y9 y10 y11; unfold spec_AddPiece.j2
   repeat' first
   | (with_reducible exact ih0 _ _ _ _ _ _ _ _ _ _ _ _)
   | (with_reducible exact ih1 _ _ _ _ _ _ _ _ _ _ _ _)
   | (with_reducible exact ih2 _ _ _ _ _ _ _ _ _ _ _ _ _ _)
   | (with_reducible exact ih3 _ _ _)
   | (with_reducible exact ih4 _ _ _ _ _ _ _ _ _ _ _ _)
   | (with_reducible exact spec_GoodBundle.mono _ _ _ _ _ _ _ _ _ _ _)
   | (with_reducible exact spec_GoodPile.mono _ _)
   | (with_reducible exact LeO.refl _)
   | (with_reducible exact LeO.none _)
   | (with_reducible refine LeO.ite ?_ ?_)
   | (with_reducible refine LeO.bind ?_ (fun _ => ?_))
   | exact ih0 _ _ _ _ _ _ _ _ _ _ _ _
   | exact ih1 _ _ _ _ _ _ _ _ _ _ _ _
   | exact ih2 _ _ _ _ _ _ _ _ _ _ _ _ _ _
   | exact ih3 _ _ _
   | exact ih4 _ _ _ _ _ _ _ _ _ _ _ _
   | exact spec_GoodBundle.mono _ _ _ _ _ _ _ _ _ _ _
   | exact spec_GoodPile.mono _ _
   | exact LeO.none _
   | refine LeO.ite ?_ ?_
   | refine LeO.bind ?_ (fun _ => ?_)
  ·intro y0 y1 y2 y3 y4 y5 y6 y7 y8 y9 y10 y11 y12 y13; unfold spec_AddPiece.j3
   repeat' first
   | (with_reducible exact ih0 _ _ _ _ _ _ _ _ _ _ _ _)
   | (with_reducible exact ih1 _ _ _ _ _ _ _ _ _ _ _ _)
   | (with_reducible exact ih2 _ _ _ _ _ _ _ _ _ _ _ _ _ _)
   | (with_reducible exact ih3 _ _ _)
   | (with_reducible exact ih4 _ _ _ _ _ _ _ _ _ _ _ _)
   | (with_reducible exact spec_GoodBundle.mono _ _ _ _ _ _ _ _ _ _ _)
   | (with_reducible exact spec_GoodPile.mono _ _)
   | (with_reducible exact LeO.refl _)
   | (with_reducible exact LeO.none _)
   | (with_reducible refine LeO.ite ?_ ?_)
   | (with_reducible refine LeO.bind ?_ (fun _ => ?_))
   | exact ih0 _ _ _ _ _ _ _ _ _ _ _ _
   | exact ih1 _ _ _ _ _ _ _ _ _ _ _ _
   | exact ih2 _ _ _ _ _ _ _ _ _ _ _ _ _ _
   | exact ih3 _ _ _
   | exact ih4 _ _ _ _ _ _ _ _ _ _ _ _
   | exact spec_GoodBundle.mono _ _ _ _ _ _ _ _ _ _ _
   | exact spec_GoodPile.mono _ _
   | exact LeO.none _
   | refine LeO.ite ?_ ?_
   | refine LeO.bind ?_ (fun _ => ?_)
  ·intro y0 y1 y2; unfold spec_AddPiece.j4
   repeat' first
   | (with_reducible exact ih0 _ _ _ _ _ _ _ _ _ _ _ _)
   | (with_reducible exact ih1 _ _ _ _ _ _ _ _ _ _ _ _)
   | (with_reducible exact ih2 _ _ _ _ _ _ _ _ _ _ _ _ _ _)
   | (with_reducible exact ih3 _ _ _)
   | (with_reducible exact ih4 _ _ _ _ _ _ _ _ _ _ _ _)
   | (with_reducible exact spec_GoodBundle.mono _ _ _ _ _ _ _ _ _ _ _)
   | (with_reducible exact spec_GoodPile.mono _ _)
   | (with_reducible exact LeO.refl _)
   | (with_reducible exact LeO.none _)
   | (with_reducible refine LeO.ite ?_ ?_)
   | (with_reducible refine LeO.bind ?_ (fun _ => ?_))
   | exact ih0 _ _ _ _ _ _ _ _ _ _ _ _
   | exact ih1 _ _ _ _ _ _ _ _ _ _ _ _
   | exact ih2 _ _ _ _ _ _ _ _ _ _ _ _ _ _
   | exact ih3 _ _ _
   | exact ih4 _ _ _ _ _ _ _ _ _ _ _ _
   | exact spec_GoodBundle.mono _ _ _ _ _ _ _ _ _ _ _
   | exact spec_GoodPile.mono _ _
   | exact LeO.none _
   | refine LeO.ite ?_ ?_
   | refine LeO.bind ?_ (fun _ => ?_)
  ·intro y0 y1 y2 y3 y4 y5 y6 y7 y8 y9 y10 y11; unfold spec_AddPiece.l0
   repeat' first
   | (with_reducible exact ih0 _ _ _ _ _ _ _ _ _ _ _ _)
   | (with_reducible exact ih1 _ _ _ _ _ _ _ _ _ _ _ _)
   | (with_reducible exact ih2 _ _ _ _ _ _ _ _ _ _ _ _ _ _)
   | (with_reducible exact ih3 _ _ _)
   | (with_reducible exact ih4 _ _ _ _ _ _ _ _ _ _ _ _)
   | (with_reducible exact spec_GoodBundle.mono _ _ _ _ _ _ _ _ _ _ _)
   | (with_reducible exact spec_GoodPile.mono _ _)
   | (with_reducible exact LeO.refl _)
   | (with_reducible exact LeO.none _)
   | (with_reducible refine LeO.ite ?_ ?_)
   | (with_reducible refine LeO.bind ?_ (fun _ => ?_))
   | exact ih0 _ _ _ _ _ _ _ _ _ _ _ _
   | exact ih1 _ _ _ _ _ _ _ _ _ _ _ _
   | exact ih2 _ _ _ _ _ _ _ _ _ _ _ _ _ _
   | exact ih3 _ _ _
   | exact ih4 _ _ _ _ _ _ _ _ _ _ _ _
   | exact spec_GoodBundle.mono _ _ _ _ _ _ _ _ _ _ _
   | exact spec_GoodPile.mono _ _
   | exact LeO.none _
   | refine LeO.ite ?_ ?_
   | refine LeO.bind ?_ (fun _ => ?_)
theorem spec_AddPiece.mono : ∀ a0 a1 a2 a3 a4 a5 a6 a7 a8 a9 a10 k, LeO (spec_AddPiece.f k a0 a1 a2 a3 a4 a5 a6 a7 a8 a9 a10) (spec_AddPiece.f (k + 1) a0 a1 a2 a3 a4 a5 a6 a7 a8 a9 a10) := by
 intro a0 a1 a2 a3 a4 a5 a6 a7 a8 a9 a10 k; obtain ⟨ih0, ih1, ih2, ih3, ih4⟩ := spec_AddPiece.mono_l k; unfold spec_AddPiece.f
 repeat' first
   | (with_reducible exact ih0 _ _ _ _ _ _ _ _ _ _ _ _)
   | (with_reducible exact ih1 _ _ _ _ _ _ _ _ _ _ _ _)
   | (with_reducible exact ih2 _ _ _ _ _ _ _ _ _ _ _ _ _ _)
   | (with_reducible exact ih3 _ _ _)
   | (with_reducible exact ih4 _ _ _ _ _ _ _ _ _ _ _ _)
   | (with_reducible exact spec_GoodBundle.mono _ _ _ _ _ _ _ _ _ _ _)
   | (with_reducible exact spec_GoodPile.mono _ _)
   | (with_reducible exact LeO.refl _)
   | (with_reducible exact LeO.none _)
   | (with_reducible refine LeO.ite ?_ ?_)
   | (with_reducible refine LeO.bind ?_ (fun _ => ?_))
   | exact ih0 _ _ _ _ _ _ _ _ _ _ _ _
   | exact ih1 _ _ _ _ _ _ _ _ _ _ _ _
   | exact ih2 _ _ _ _ _ _ _ _ _ _ _ _ _ _
   | exact ih3 _ _ _
   | exact ih4 _ _ _ _ _ _ _ _ _ _ _ _
   | exact spec_GoodBundle.mono _ _ _ _ _ _ _ _ _ _ _
   | exact spec_GoodPile.mono _ _
   | exact LeO.none _
   | refine LeO.ite ?_ ?_
   | refine LeO.bind ?_ (fun _ => ?_)
def spec_AddPiece.T4 : Bool × List (List Nat × List Nat) := (true, [([], []), ([], []), ([1], [1]), ([2], [2]), ([0, 3], [0, 3]), ([4], [4]), ([5], [5]), ([6, 5], [5, 6]), ([5], [5]), ([7, 8, 5], [5, 7, 8]), ([9, 5], [5, 9]), ([5], [5]), ([10, 11, 5, 5], [5, 10, 11]), ([5, 12], [5, 12])])
def spec_AddPiece.B4 : List Nat := [0, 0, 2, 6, 15, 31, 63, 127, 63, 511, 1023, 63, 4095, 8191]
theorem spec_AddPiece.tab4 : rtab .any (opsOf Try.f24 4) = spec_AddPiece.T4 := by kernel_rfl
theorem spec_AddPiece.bits4 : waitsOk spec_AddPiece.T4.2 spec_AddPiece.B4 = true := by kernel_rfl
def spec_AddPiece.T7 : Bool × List (List Nat × List Nat) := (true, [([], []), ([], []), ([1], [1]), ([2], [2]), ([0, 3], [0, 3]), ([4], [4]), ([5], [5]), ([5], [5]), ([7, 5], [5, 7]), ([5], [5]), ([8, 9, 5], [5, 8, 9]), ([10, 5], [5, 10]), ([6, 11, 5, 5], [5, 6, 11]), ([5, 12], [5, 12])])
def spec_AddPiece.B7 : List Nat := [0, 0, 2, 6, 15, 31, 63, 63, 191, 63, 959, 1983, 4095, 8191]
theorem spec_AddPiece.tab7 : rtab .any (opsOf Try.f24 7) = spec_AddPiece.T7 := by kernel_rfl
theorem spec_AddPiece.bits7 : waitsOk spec_AddPiece.T7.2 spec_AddPiece.B7 = true := by kernel_rfl
def spec_AddPiece.T9 : Bool × List (List Nat × List Nat) := (true, [([], []), ([], []), ([1], [1]), ([], []), ([2, 3], [2, 3]), ([4], [4]), ([0, 5], [0, 5]), ([6], [6]), ([7, 6], [7]), ([8], [8]), ([9, 8], [8, 9]), ([8], [8]), ([11, 8], [8, 11]), ([8], [8]), ([12, 13, 8], [8, 12, 13]), ([14, 8], [8, 14]), ([15, 8], [8, 15]), ([10, 16, 8], [8, 10, 16]), ([8, 17], [8, 17])])
def spec_AddPiece.B9 : List Nat := [0, 0, 2, 0, 14, 30, 63, 127, 255, 511, 1023, 511, 2559, 511, 14847, 31231, 63999, 131071, 262143]
theorem spec_AddPiece.tab9 : rtab .any (opsOf Try.f24 9) = spec_AddPiece.T9 := by kernel_rfl
theorem spec_AddPiece.bits9 : waitsOk spec_AddPiece.T9.2 spec_AddPiece.B9 = true := by kernel_rfl
def spec_AddPiece.T11 : Bool × List (List Nat × List Nat) := (true, [([], []), ([0], [0]), ([], []), ([2], [2]), ([], []), ([3, 4], [3, 4]), ([1, 5], [1, 5]), ([0, 1, 2, 3, 4, 5, 6], []), ([7, 6, 6, 0, 1, 2, 3, 4, 5, 6], [6, 7])])
def spec_AddPiece.B11 : List Nat := [0, 1, 0, 4, 0, 28, 63, 127, 255]
theorem spec_AddPiece.tab11 : rtab .any (opsOf Try.f24 11) = spec_AddPiece.T11 := by kernel_rfl
theorem spec_AddPiece.bits11 : waitsOk spec_AddPiece.T11.2 spec_AddPiece.B11 = true := by kernel_rfl
set_option maxHeartbeats 8000000 in
set_option maxRecDepth 100000 in
theorem spec_AddPiece.calls (k : Nat) (A0_0 : Option Addr) (c0_0 : Nat) (l0_0 : List (S46)) (a1_0 : Int) (a1_1 : Int) (a1_2 : Bool) (a1_3 : Int) (a1_4 : Int) (a1_5 : Int) (a1_6 : Int) (a1_7 : Int) (a1_8 : Int) (a1_9 : ByteArray) (r1 : List (S46)) (r2 : Bool) (w : World) (hr0_0 : Kd.C k46 w A0_0 l0_0.length l0_0) (hc0_0 : l0_0.length ≤ c0_0) (h : spec_AddPiece.f k l0_0 a1_0 a1_1 a1_2 a1_3 a1_4 a1_5 a1_6 a1_7 a1_8 a1_9 = some (r1, r2)) :
  Calls Try.prog 24 #[.agg #[.slice A0_0 l0_0.length c0_0], .agg #[.int .i64 a1_0, .int .i64 a1_1, .bool a1_2, .int .i64 a1_3, .int .i64 a1_4, .int .i64 a1_5, .int .i64 a1_6, .int .i64 a1_7, .int .i64 a1_8, .string a1_9]] w fun e w' => ∃ v0_ : Value, e = .returned (.tuple #[.agg #[v0_], .bool r2]) ∧ Kd.R k46 46 w' w.heap.size (fun _ => True) v0_ r1 ∧ Below w.heap.size w w' := by
 have hu29 := Try.underlying29; have hu46 := Try.underlying46; have HR0_0 := Aside0.mk hr0_0; have HC0_0 := Aside0.mk hc0_0; clear hr0_0 hc0_0; have HB := Aside0.mk (Below.refl w.heap.size w); have H : ((spec_GoodPile.f k l0_0).bind fun t193 => (if t193 = true then ((spec_GoodBundle.f k a1_0 a1_1 a1_2 a1_3 a1_4 a1_5 a1_6 a1_7 a1_8 a1_9).bind fun t194 => (if t194 = true then (spec_AddPiece.j0 k (a1_8 == 0) l0_0 a1_0 a1_1 a1_2 a1_3 a1_4 a1_5 a1_6 a1_7 a1_8 a1_9) else (spec_AddPiece.j0 k true l0_0 a1_0 a1_1 a1_2 a1_3 a1_4 a1_5 a1_6 a1_7 a1_8 a1_9))) else (spec_AddPiece.j0 k true l0_0 a1_0 a1_1 a1_2 a1_3 a1_4 a1_5 a1_6 a1_7 a1_8 a1_9))) = some (r1, r2) := h; clear h; have HC3 := Aside0.mk H; clear H
 go_enter Try.func24, Try.ntmps24
 go_upto_region 1 with (first | ((with_reducible refine gate_dst (N := 2) rfl ?_); refine be_ 2 29 #[.slice A0_0 l0_0.length c0_0] ?_; intro gb190 hg w4 hbox hb; have BK190 := Aside0.mk (hbox); have GW190 := ge_ HB hg; have GE190 := ge_ HB hg; replace HB := hb_ HB hb; clear hb hbox hg) | ((with_reducible refine gate_dst (N := 3) rfl ?_); refine be_ 3 46 #[.int .i64 a1_0, .int .i64 a1_1, .bool a1_2, .int .i64 a1_3, .int .i64 a1_4, .int .i64 a1_5, .int .i64 a1_6, .int .i64 a1_7, .int .i64 a1_8, .string a1_9] ?_; intro gb191 hg w5 hbox hb; have BK191 := Aside0.mk (hbox); have GW191 := ge_ HB hg; have GE191 := ge_ HB hg; replace HB := hb_ HB hb; have NB190_191 := nl_ BK190 hg; have NB191_190 := ng_ BK190 hg; replace BK190 := ba_ BK190 hb; clear hb hbox hg) | ((with_reducible refine gate_dst (N := 4) rfl ?_); refine be_ 4 29 #[.slice none 0 0] ?_; intro gb192 hg w6 hbox hb; have BK192 := Aside0.mk (hbox); have GW192 := ge_ HB hg; have GE192 := ge_ HB hg; replace HB := hb_ HB hb; have NB190_192 := nl_ BK190 hg; have NB192_190 := ng_ BK190 hg; replace BK190 := ba_ BK190 hb; have NB191_192 := nl_ BK191 hg; have NB192_191 := ng_ BK191 hg; replace BK191 := ba_ BK191 hb; clear hb hbox hg))
 (try simp only [Act.put, List.setIfInBounds_toArray, List.set_cons_zero, List.set_cons_succ])
 go_cut [20] (fun v20 wc => ∃ (kq : Nat) (x20_2 : Bool), v20 = .bool x20_2 ∧ Aside0 (spec_AddPiece.j0 kq x20_2 l0_0 a1_0 a1_1 a1_2 a1_3 a1_4 a1_5 a1_6 a1_7 a1_8 a1_9 = some (r1, r2)) ∧ Aside0 (kq ≤ k) ∧ Aside0 (wc.heap[gb190]? = some (.cells #[(.slice A0_0 l0_0.length c0_0)] 29 (0, 0))) ∧ Aside0 (wc.heap[gb191]? = some (.cells #[.int .i64 a1_0, .int .i64 a1_1, .bool a1_2, .int .i64 a1_3, .int .i64 a1_4, .int .i64 a1_5, .int .i64 a1_6, .int .i64 a1_7, .int .i64 a1_8, .string a1_9] 46 (0, 0))) ∧ Aside0 (wc.heap[gb192]? = some (.cells #[(.slice none 0 0)] 29 (0, 0))) ∧ Aside0 (Below w.heap.size w wc))
 case first =>
  have H := HC3.out; clear HC3; replace H := Option.bind_eq_some_iff.mp H; obtain ⟨t193, A70, H⟩ := H; (try dsimp only at H); have A7 := Aside0.mk A70; clear A70; by_cases c8 : t193 = true
  ·subst c8; rw [if_pos rfl] at H; replace H := Option.bind_eq_some_iff.mp H; obtain ⟨t194, A90, H⟩ := H; (try dsimp only at H); have A9 := Aside0.mk A90; clear A90; by_cases c10 : t194 = true
   ·subst c10; rw [if_pos rfl] at H; have H' := Aside0.mk H; clear H; have hnb11 := NB190_191.out; have hnc11 := NB191_190.out; have hnb12 := NB190_192.out; have hnc12 := NB192_190.out; have hcz13_0 : w6.cell? ⟨gb190, 0, none⟩ = some (.slice A0_0 l0_0.length c0_0) := (blk_cell BK190.out 0).trans rfl; have hfz13_0 := blk_frozen BK190.out 0; go_wp2_with (first | ((with_reducible refine gate_callee (f := 11) rfl ?_); refine goesL_ (some 9) rfl rfl Try.func11 (by kernel_rfl) rfl #[.agg #[.slice A0_0 l0_0.length c0_0]] rfl ma_ ?_; (with_reducible refine (spec_GoodPile.calls k _ _ l0_0 true _ ?side1 ?side2 A7.out).mono ?_); (case side1 => repeat (first | exact (Kd.C_below HR0_0.out HB.out) | with_reducible first | refine Kd.C_alloc ?_ _ | refine Kd.C_drewN ?_ _ | refine Kd.C_drew ?_)); (case side2 => exact HC0_0.out); rintro e w14 ⟨rfl, hb⟩; refine ⟨_, rfl, ?_⟩; replace BK190 := ba_ BK190 hb; replace BK191 := ba_ BK191 hb; replace BK192 := ba_ BK192 hb; replace HB := hb_ HB hb; (try clear hb); (try clear hb2); (try clear hk); (try clear hi); have hnb15 := NB191_192.out; have hnc15 := NB192_191.out; obtain ⟨hcz16_0, hcz16_1, hcz16_2, hcz16_3, hcz16_4, hcz16_5, hcz16_6, hcz16_7, hcz16_8, hcz16_9, hfz16_0, hfz16_1, hfz16_2, hfz16_3, hfz16_4, hfz16_5, hfz16_6, hfz16_7, hfz16_8, hfz16_9⟩ := cf10 BK191.out) | (go_at_call 44; (with_reducible refine (spec_GoodBundle.calls k a1_0 a1_1 a1_2 a1_3 a1_4 a1_5 a1_6 a1_7 a1_8 a1_9 true _ A9.out).mono ?_); rintro e w17 ⟨rfl, hb⟩; replace BK190 := ba_ BK190 hb; replace BK191 := ba_ BK191 hb; replace BK192 := ba_ BK192 hb; replace HB := hb_ HB hb; (try clear hb); (try clear hb2); (try clear hk); (try clear hi); obtain ⟨hcz18_0, hcz18_1, hcz18_2, hcz18_3, hcz18_4, hcz18_5, hcz18_6, hcz18_7, hcz18_8, hcz18_9, hfz18_0, hfz18_1, hfz18_2, hfz18_3, hfz18_4, hfz18_5, hfz18_6, hfz18_7, hfz18_8, hfz18_9⟩ := cf10 BK191.out)); go_meet
    case rel => exact ⟨_, ((a1_8 == 0)), fs_, H', ⟨by first | omega | exact Nat.le_refl _⟩, ⟨pq_⟩, ⟨pq_⟩, ⟨pq_⟩, ⟨bq_ HB⟩⟩
   ·replace c10 := Bool.eq_false_iff.mpr c10; subst c10; rw [if_neg (show ¬ (false = true) by decide)] at H; have H' := Aside0.mk H; clear H; have hnb19 := NB190_191.out; have hnc19 := NB191_190.out; have hnb20 := NB190_192.out; have hnc20 := NB192_190.out; have hcz21_0 : w6.cell? ⟨gb190, 0, none⟩ = some (.slice A0_0 l0_0.length c0_0) := (blk_cell BK190.out 0).trans rfl; have hfz21_0 := blk_frozen BK190.out 0; go_wp2_with (first | ((with_reducible refine gate_callee (f := 11) rfl ?_); refine goesL_ (some 9) rfl rfl Try.func11 (by kernel_rfl) rfl #[.agg #[.slice A0_0 l0_0.length c0_0]] rfl ma_ ?_; (with_reducible refine (spec_GoodPile.calls k _ _ l0_0 true _ ?side1 ?side2 A7.out).mono ?_); (case side1 => repeat (first | exact (Kd.C_below HR0_0.out HB.out) | with_reducible first | refine Kd.C_alloc ?_ _ | refine Kd.C_drewN ?_ _ | refine Kd.C_drew ?_)); (case side2 => exact HC0_0.out); rintro e w22 ⟨rfl, hb⟩; refine ⟨_, rfl, ?_⟩; replace BK190 := ba_ BK190 hb; replace BK191 := ba_ BK191 hb; replace BK192 := ba_ BK192 hb; replace HB := hb_ HB hb; (try clear hb); (try clear hb2); (try clear hk); (try clear hi); have hnb23 := NB191_192.out; have hnc23 := NB192_191.out; obtain ⟨hcz24_0, hcz24_1, hcz24_2, hcz24_3, hcz24_4, hcz24_5, hcz24_6, hcz24_7, hcz24_8, hcz24_9, hfz24_0, hfz24_1, hfz24_2, hfz24_3, hfz24_4, hfz24_5, hfz24_6, hfz24_7, hfz24_8, hfz24_9⟩ := cf10 BK191.out) | (go_at_call 44; (with_reducible refine (spec_GoodBundle.calls k a1_0 a1_1 a1_2 a1_3 a1_4 a1_5 a1_6 a1_7 a1_8 a1_9 false _ A9.out).mono ?_); rintro e w25 ⟨rfl, hb⟩; replace BK190 := ba_ BK190 hb; replace BK191 := ba_ BK191 hb; replace BK192 := ba_ BK192 hb; replace HB := hb_ HB hb; (try clear hb); (try clear hb2); (try clear hk); (try clear hi))); go_meet
    case rel => exact ⟨_, (true), fs_, H', ⟨by first | omega | exact Nat.le_refl _⟩, ⟨pq_⟩, ⟨pq_⟩, ⟨pq_⟩, ⟨bq_ HB⟩⟩
  ·replace c8 := Bool.eq_false_iff.mpr c8; subst c8; rw [if_neg (show ¬ (false = true) by decide)] at H; have H' := Aside0.mk H; clear H; have hnb26 := NB190_191.out; have hnc26 := NB191_190.out; have hnb27 := NB190_192.out; have hnc27 := NB192_190.out; have hcz28_0 : w6.cell? ⟨gb190, 0, none⟩ = some (.slice A0_0 l0_0.length c0_0) := (blk_cell BK190.out 0).trans rfl; have hfz28_0 := blk_frozen BK190.out 0; go_wp2_with (first | ((with_reducible refine gate_callee (f := 11) rfl ?_); refine goesL_ (some 9) rfl rfl Try.func11 (by kernel_rfl) rfl #[.agg #[.slice A0_0 l0_0.length c0_0]] rfl ma_ ?_; (with_reducible refine (spec_GoodPile.calls k _ _ l0_0 false _ ?side1 ?side2 A7.out).mono ?_); (case side1 => repeat (first | exact (Kd.C_below HR0_0.out HB.out) | with_reducible first | refine Kd.C_alloc ?_ _ | refine Kd.C_drewN ?_ _ | refine Kd.C_drew ?_)); (case side2 => exact HC0_0.out); rintro e w29 ⟨rfl, hb⟩; refine ⟨_, rfl, ?_⟩; replace BK190 := ba_ BK190 hb; replace BK191 := ba_ BK191 hb; replace BK192 := ba_ BK192 hb; replace HB := hb_ HB hb; (try clear hb); (try clear hb2); (try clear hk); (try clear hi))); go_meet
   case rel => exact ⟨_, (true), fs_, H', ⟨by first | omega | exact Nat.le_refl _⟩, ⟨pq_⟩, ⟨pq_⟩, ⟨pq_⟩, ⟨bq_ HB⟩⟩
 case rest =>
  clear HC3; try clear c1
  try clear c2
  try clear p2
  try clear c8
  try clear c10
  try clear c11
  try clear c12
  try clear c15
  try clear c19
  try clear c20
  try clear c23
  try clear c24
  try clear c26
  try clear c27
  try clear hcz13_0
  try clear hcz16_0
  try clear hcz16_1
  try clear hcz16_2
  try clear hcz16_3
  try clear hcz16_4
  try clear hcz16_5
  try clear hcz16_6
  try clear hcz16_7
  try clear hcz16_8
  try clear hcz16_9
  try clear hcz18_0
  try clear hcz18_1
  try clear hcz18_2
  try clear hcz18_3
  try clear hcz18_4
  try clear hcz18_5
  try clear hcz18_6
  try clear hcz18_7
  try clear hcz18_8
  try clear hcz18_9
  try clear hcz21_0
  try clear hcz24_0
  try clear hcz24_1
  try clear hcz24_2
  try clear hcz24_3
  try clear hcz24_4
  try clear hcz24_5
  try clear hcz24_6
  try clear hcz24_7
  try clear hcz24_8
  try clear hcz24_9
  try clear hcz28_0
  try clear hfz13_0
  try clear hfz16_0
  try clear hfz16_1
  try clear hfz16_2
  try clear hfz16_3
  try clear hfz16_4
  try clear hfz16_5
  try clear hfz16_6
  try clear hfz16_7
  try clear hfz16_8
  try clear hfz16_9
  try clear hfz18_0
  try clear hfz18_1
  try clear hfz18_2
  try clear hfz18_3
  try clear hfz18_4
  try clear hfz18_5
  try clear hfz18_6
  try clear hfz18_7
  try clear hfz18_8
  try clear hfz18_9
  try clear hfz21_0
  try clear hfz24_0
  try clear hfz24_1
  try clear hfz24_2
  try clear hfz24_3
  try clear hfz24_4
  try clear hfz24_5
  try clear hfz24_6
  try clear hfz24_7
  try clear hfz24_8
  try clear hfz24_9
  try clear hfz28_0
  obtain ⟨kq, x20_2, rfl, HA, HJ2, BK190, BK191, BK192, HB⟩ := hcut; cases kq with
  | zero => exact absurd HA.out (by simp [spec_AddPiece.j0])
  | succ kj2 =>
   have H := HA.out; clear HA; simp only [spec_AddPiece.j0] at H; by_cases c30 : x20_2 = true
   ·subst c30; rw [if_pos rfl] at H; simp only [Option.some.injEq, Prod.mk.injEq] at H; obtain ⟨rfl, rfl⟩ := H; have hnb31 := NB192_190.out; have hnc31 := NB190_192.out; have hnb32 := NB192_191.out; have hnc32 := NB191_192.out; have hcz33_0 : wc.cell? ⟨gb192, 0, none⟩ = some (.slice none 0 0) := (blk_cell BK192.out 0).trans rfl; have hfz33_0 := blk_frozen BK192.out 0; go_wp2; refine bodyPost_ret (results_ct rfl _ _ gb192 29 #[.slice none 0 0] (0, 0) _ rfl (by (with_reducible repeat (first | refine blk_drewN ?_ _ | refine blk_drew ?_ | refine blk_alloc ?_ _)); refine blk_put (cs := #[.slice none 0 0]) ?_ 0 _ rfl; (with_reducible repeat (first | refine blk_drewN ?_ _ | refine blk_drew ?_ | refine blk_alloc ?_ _)); exact BK192.out) Try.underlying29 rfl (by kernel_rfl)) rfl ?_; exact ⟨_, er_, by first | exact Kd.R_nil _ _ _ _ _ | exact Kd.N_nil _ _ _ _ _ | exact Kd.V_nil _ _ _ _ _ | exact Kd.Q_nil _ _ _ _ _ | exact Kd.S_nil _ _ _ _ _, bq_ HB⟩
   ·replace c30 := Bool.eq_false_iff.mpr c30; subst c30; rw [if_neg (show ¬ (false = true) by decide)] at H; have HC34 := Aside0.mk H; clear H
    go_upto_block 0 with (fail)
    go_cut [6] (fun v6 wc => ∃ (kq : Nat) (x6_33 : Int), v6 = .int .i64 x6_33 ∧ Aside0 (spec_AddPiece.j2 kq x6_33 l0_0 a1_0 a1_1 a1_2 a1_3 a1_4 a1_5 a1_6 a1_7 a1_8 a1_9 = some (r1, r2)) ∧ Aside0 (kq ≤ kj2) ∧ Aside0 (wc.heap[gb190]? = some (.cells #[(.slice A0_0 l0_0.length c0_0)] 29 (0, 0))) ∧ Aside0 (wc.heap[gb191]? = some (.cells #[.int .i64 a1_0, .int .i64 a1_1, .bool a1_2, .int .i64 a1_3, .int .i64 a1_4, .int .i64 a1_5, .int .i64 a1_6, .int .i64 a1_7, .int .i64 a1_8, .string a1_9] 46 (0, 0))) ∧ Aside0 (wc.heap[gb192]? = some (.cells #[(.slice none 0 0)] 29 (0, 0))) ∧ Aside0 (Below w.heap.size w wc))
    case first =>
     have H := HC34.out; clear HC34; have H' := Aside0.mk H; clear H; go_wp2
     go_loopg [6] kj2 (fun kq v6 w' => ∃ (x6_2 : Int), v6 = .int .i64 x6_2 ∧ Aside0 (spec_AddPiece.l0 kq x6_2 l0_0 a1_0 a1_1 a1_2 a1_3 a1_4 a1_5 a1_6 a1_7 a1_8 a1_9 = some (r1, r2)) ∧ Aside0 (kq ≤ kj2) ∧ Aside0 (w'.heap[gb190]? = some (.cells #[(.slice A0_0 l0_0.length c0_0)] 29 (0, 0))) ∧ Aside0 (w'.heap[gb191]? = some (.cells #[.int .i64 a1_0, .int .i64 a1_1, .bool a1_2, .int .i64 a1_3, .int .i64 a1_4, .int .i64 a1_5, .int .i64 a1_6, .int .i64 a1_7, .int .i64 a1_8, .string a1_9] 46 (0, 0))) ∧ Aside0 (w'.heap[gb192]? = some (.cells #[(.slice none 0 0)] 29 (0, 0))) ∧ Aside0 (Below w.heap.size w w'))
     case atStart => exact ⟨(0), fs_, H', ⟨Nat.le_refl _⟩, ⟨pq_⟩, ⟨pq_⟩, ⟨pq_⟩, ⟨bq_ HB⟩⟩
     case round =>
      clear H'; try clear c1
      try clear c2
      try clear p2
      try clear c3
      try clear c8
      try clear c10
      try clear c11
      try clear c12
      try clear c15
      try clear c19
      try clear c20
      try clear c23
      try clear c24
      try clear c26
      try clear c27
      try clear c30
      try clear c31
      try clear c32
      try clear hcz13_0
      try clear hcz16_0
      try clear hcz16_1
      try clear hcz16_2
      try clear hcz16_3
      try clear hcz16_4
      try clear hcz16_5
      try clear hcz16_6
      try clear hcz16_7
      try clear hcz16_8
      try clear hcz16_9
      try clear hcz18_0
      try clear hcz18_1
      try clear hcz18_2
      try clear hcz18_3
      try clear hcz18_4
      try clear hcz18_5
      try clear hcz18_6
      try clear hcz18_7
      try clear hcz18_8
      try clear hcz18_9
      try clear hcz21_0
      try clear hcz24_0
      try clear hcz24_1
      try clear hcz24_2
      try clear hcz24_3
      try clear hcz24_4
      try clear hcz24_5
      try clear hcz24_6
      try clear hcz24_7
      try clear hcz24_8
      try clear hcz24_9
      try clear hcz28_0
      try clear hcz33_0
      try clear hfz13_0
      try clear hfz16_0
      try clear hfz16_1
      try clear hfz16_2
      try clear hfz16_3
      try clear hfz16_4
      try clear hfz16_5
      try clear hfz16_6
      try clear hfz16_7
      try clear hfz16_8
      try clear hfz16_9
      try clear hfz18_0
      try clear hfz18_1
      try clear hfz18_2
      try clear hfz18_3
      try clear hfz18_4
      try clear hfz18_5
      try clear hfz18_6
      try clear hfz18_7
      try clear hfz18_8
      try clear hfz18_9
      try clear hfz21_0
      try clear hfz24_0
      try clear hfz24_1
      try clear hfz24_2
      try clear hfz24_3
      try clear hfz24_4
      try clear hfz24_5
      try clear hfz24_6
      try clear hfz24_7
      try clear hfz24_8
      try clear hfz24_9
      try clear hfz28_0
      try clear hfz33_0
      try clear p2
      obtain ⟨x6_2, rfl, HA, HK2, BK190, BK191, BK192, HB⟩ := hrel; cases gk with
      | zero => exact absurd HA.out (by simp [spec_AddPiece.l0])
      | succ k2 =>
       have H := HA.out; clear HA; simp only [spec_AddPiece.l0] at H; by_cases c35 : x6_2 < (l0_0.length : Int)
       ·rw [if_pos c35] at H; have c35b0 : decide (x6_2 < (l0_0.length : Int)) = true := decide_eq_true c35; clear c35; (first | rw [c35b0] | (simp only [i64_w, i32_w]; rw [c35b0]) | skip); by_cases c36 : 0 ≤ x6_2
        ·rw [if_pos c36] at H; have c36b0 : decide (0 ≤ x6_2) = true := decide_eq_true c36; clear c36; replace H := Option.bind_eq_some_iff.mp H; obtain ⟨t196, A370, H⟩ := H; (try dsimp only at H); have A37 := Aside0.mk A370; clear A370; by_cases c38 : t196 = true
         ·subst c38; rw [if_pos rfl] at H; have H' := Aside0.mk H; clear H; try go_wp2
          replace BK190 := Aside0.mk (blk_drew BK190.out); replace BK191 := Aside0.mk (blk_drew BK191.out); replace BK192 := Aside0.mk (blk_drew BK192.out); replace HB := Aside0.mk (below_drew1 HB.out); have p195 : 0 ≤ (x6_2 : Int) := od_; have q195 : x6_2 < (l0_0.length : Int) := od_; obtain ⟨ad195, e195, hx195_0, hx195_1, hx195_2, hx195_3, hx195_4, hx195_5, hx195_6, hx195_7, hx195_8, hx195_9⟩ := at_T46 HR0_0.out x6_2 p195 q195; have hw195_9 := hx195_9; have hw195_8 := hx195_8; have hw195_7 := hx195_7; have hw195_6 := hx195_6; have hw195_5 := hx195_5; have hw195_4 := hx195_4; have hw195_3 := hx195_3; have hw195_2 := hx195_2; have hw195_1 := hx195_1; have hw195_0 := hx195_0; cases e195; replace hx195_0 := ce_ HB.out hx195_0; replace hx195_1 := ce_ HB.out hx195_1; replace hx195_2 := ce_ HB.out hx195_2; replace hx195_3 := ce_ HB.out hx195_3; replace hx195_4 := ce_ HB.out hx195_4; replace hx195_5 := ce_ HB.out hx195_5; replace hx195_6 := ce_ HB.out hx195_6; replace hx195_7 := ce_ HB.out hx195_7; replace hx195_8 := ce_ HB.out hx195_8; replace hx195_9 := ce_ HB.out hx195_9; replace p195 := eq_true p195; replace q195 := eq_true q195; refine start_ (n := 14) (S := fun w' => w'.cell? ⟨gb190, 0, none⟩ = some (.slice (some ad195) l0_0.length c0_0) ∧ w'.cell? ⟨gb191, 0, none⟩ = some (.int .i64 a1_0) ∧ w'.cell? ⟨gb191, 1, none⟩ = some (.int .i64 a1_1) ∧ w'.cell? ⟨gb191, 2, none⟩ = some (.bool a1_2) ∧ w'.cell? ⟨gb191, 3, none⟩ = some (.int .i64 a1_3) ∧ w'.cell? ⟨gb191, 4, none⟩ = some (.int .i64 a1_4) ∧ w'.cell? ⟨gb191, 5, none⟩ = some (.int .i64 a1_5) ∧ w'.cell? ⟨gb191, 6, none⟩ = some (.int .i64 a1_6) ∧ w'.cell? ⟨gb191, 7, none⟩ = some (.int .i64 a1_7) ∧ w'.cell? ⟨gb191, 8, none⟩ = some (.int .i64 a1_8) ∧ w'.cell? ⟨gb191, 9, none⟩ = some (.string a1_9) ∧ w'.cell? (ad195.add ((x6_2).toNat * 10)) = some (.int .i64 ((rd_T46 l0_0 x6_2).f0)) ∧ w'.cell? ⟨(ad195.add ((x6_2).toNat * 10)).block, (ad195.add ((x6_2).toNat * 10)).off + 1, none⟩ = some (.int .i64 ((rd_T46 l0_0 x6_2).f1)) ∧ w'.cell? ⟨(ad195.add ((x6_2).toNat * 10)).block, (ad195.add ((x6_2).toNat * 10)).off + 2, none⟩ = some (.bool ((rd_T46 l0_0 x6_2).f2)) ∧ w'.cell? ⟨(ad195.add ((x6_2).toNat * 10)).block, (ad195.add ((x6_2).toNat * 10)).off + 3, none⟩ = some (.int .i64 ((rd_T46 l0_0 x6_2).f3)) ∧ w'.cell? ⟨(ad195.add ((x6_2).toNat * 10)).block, (ad195.add ((x6_2).toNat * 10)).off + 4, none⟩ = some (.int .i64 ((rd_T46 l0_0 x6_2).f4)) ∧ w'.cell? ⟨(ad195.add ((x6_2).toNat * 10)).block, (ad195.add ((x6_2).toNat * 10)).off + 5, none⟩ = some (.int .i64 ((rd_T46 l0_0 x6_2).f5)) ∧ w'.cell? ⟨(ad195.add ((x6_2).toNat * 10)).block, (ad195.add ((x6_2).toNat * 10)).off + 6, none⟩ = some (.int .i64 ((rd_T46 l0_0 x6_2).f6)) ∧ w'.cell? ⟨(ad195.add ((x6_2).toNat * 10)).block, (ad195.add ((x6_2).toNat * 10)).off + 7, none⟩ = some (.int .i64 ((rd_T46 l0_0 x6_2).f7)) ∧ w'.cell? ⟨(ad195.add ((x6_2).toNat * 10)).block, (ad195.add ((x6_2).toNat * 10)).off + 8, none⟩ = some (.int .i64 ((rd_T46 l0_0 x6_2).f8)) ∧ w'.cell? ⟨(ad195.add ((x6_2).toNat * 10)).block, (ad195.add ((x6_2).toNat * 10)).off + 9, none⟩ = some (.string ((rd_T46 l0_0 x6_2).f9))) (ds := []) #[ff,ff,ff,ff,ff,ff,ff,ff,ff,ff,ff,ff,ff,ff] (by kernel_rfl) rfl rfl ⟨(blk_cell BK190.out 0).trans rfl, (blk_cell BK191.out 0).trans rfl, (blk_cell BK191.out 1).trans rfl, (blk_cell BK191.out 2).trans rfl, (blk_cell BK191.out 3).trans rfl, (blk_cell BK191.out 4).trans rfl, (blk_cell BK191.out 5).trans rfl, (blk_cell BK191.out 6).trans rfl, (blk_cell BK191.out 7).trans rfl, (blk_cell BK191.out 8).trans rfl, (blk_cell BK191.out 9).trans rfl, (ce_ HB.out hw195_0), (ce_ HB.out hw195_1), (ce_ HB.out hw195_2), (ce_ HB.out hw195_3), (ce_ HB.out hw195_4), (ce_ HB.out hw195_5), (ce_ HB.out hw195_6), (ce_ HB.out hw195_7), (ce_ HB.out hw195_8), (ce_ HB.out hw195_9)⟩ (fun hHeld => ?_); refine with_tabW spec_AddPiece.tab4 spec_AddPiece.bits4 (fun HT_ HW_ => ?_); generalize wr.drew = w39 at BK190 BK191 BK192 HB hx195_0 hx195_1 hx195_2 hx195_3 hx195_4 hx195_5 hx195_6 hx195_7 hx195_8 hx195_9 hHeld ⊢; refine pP 0 22 (mB 14 1) HT_ ?_
          refine pP 1 23 (mB 14 3) HT_ ?_
          refine tK 2 24 (mB 14 7) HT_ HW_ hHeld ?_
          refine pP 3 25 (mB 14 15) HT_ ?_
          refine pP 4 26 (mB 14 31) HT_ ?_
          refine pP 5 27 (mB 14 63) HT_ ?_
          refine pP 6 28 (mB 14 127) HT_ ?_
          refine pP 8 30 (mB 14 383) HT_ ?_
          refine tK 7 29 (mB 14 511) HT_ HW_ hHeld ?_
          refine pP 9 31 (mB 14 1023) HT_ ?_
          refine tK 10 32 (mB 14 2047) HT_ HW_ hHeld ?_
          refine tK 11 33 (mB 14 4095) HT_ HW_ hHeld ?_
          refine oN 12 (some 34) (mB 14 8191) HT_ (fun K hK => ?_); refine goes_ Try.func46 (by kernel_rfl) rfl #[.agg #[.int .i64 ((rd_T46 l0_0 x6_2).f0), .int .i64 ((rd_T46 l0_0 x6_2).f1), .bool ((rd_T46 l0_0 x6_2).f2), .int .i64 ((rd_T46 l0_0 x6_2).f3), .int .i64 ((rd_T46 l0_0 x6_2).f4), .int .i64 ((rd_T46 l0_0 x6_2).f5), .int .i64 ((rd_T46 l0_0 x6_2).f6), .int .i64 ((rd_T46 l0_0 x6_2).f7), .int .i64 ((rd_T46 l0_0 x6_2).f8), .string ((rd_T46 l0_0 x6_2).f9)], .agg #[.int .i64 a1_0, .int .i64 a1_1, .bool a1_2, .int .i64 a1_3, .int .i64 a1_4, .int .i64 a1_5, .int .i64 a1_6, .int .i64 a1_7, .int .i64 a1_8, .string a1_9]] (by rfl) rfl rfl ma_ ?_; with_reducible refine (spec_l4Before.calls ((rd_T46 l0_0 x6_2).f0) ((rd_T46 l0_0 x6_2).f1) ((rd_T46 l0_0 x6_2).f2) ((rd_T46 l0_0 x6_2).f3) ((rd_T46 l0_0 x6_2).f4) ((rd_T46 l0_0 x6_2).f5) ((rd_T46 l0_0 x6_2).f6) ((rd_T46 l0_0 x6_2).f7) ((rd_T46 l0_0 x6_2).f8) ((rd_T46 l0_0 x6_2).f9) a1_0 a1_1 a1_2 a1_3 a1_4 a1_5 a1_6 a1_7 a1_8 a1_9 true _ A37.out).mono ?_
          rintro e w40 ⟨rfl, hb⟩
          refine ⟨_, rfl, ?_⟩; replace BK190 := ba_ BK190 hb; replace BK191 := ba_ BK191 hb; replace BK192 := ba_ BK192 hb; replace HB := hb_ HB hb; (try clear hb); (try clear hb2); (try clear hk); (try clear hi); refine hK.out _ _ ⟨(blk_cell BK190.out 0).trans rfl, (blk_cell BK191.out 0).trans rfl, (blk_cell BK191.out 1).trans rfl, (blk_cell BK191.out 2).trans rfl, (blk_cell BK191.out 3).trans rfl, (blk_cell BK191.out 4).trans rfl, (blk_cell BK191.out 5).trans rfl, (blk_cell BK191.out 6).trans rfl, (blk_cell BK191.out 7).trans rfl, (blk_cell BK191.out 8).trans rfl, (blk_cell BK191.out 9).trans rfl, (ce_ HB.out hw195_0), (ce_ HB.out hw195_1), (ce_ HB.out hw195_2), (ce_ HB.out hw195_3), (ce_ HB.out hw195_4), (ce_ HB.out hw195_5), (ce_ HB.out hw195_6), (ce_ HB.out hw195_7), (ce_ HB.out hw195_8), (ce_ HB.out hw195_9)⟩ (fun hHeld => ?_); clear hK K; refine nO 34 ?_
          refine pP 13 35 (mB 14 16383) HT_ ?_
          refine done_ (done_of HT_.out (by kernel_rfl)) ?_; try go_wp2
          go_roundg k2
          case measure => have := HJ2.out; have := HK2.out; omega
          case rel => exact ⟨(wrap64 (x6_2 + 1)), fs_, H', ⟨by have := HJ2.out; have := HK2.out; omega⟩, ⟨pq_⟩, ⟨pq_⟩, ⟨pq_⟩, ⟨bq_ HB⟩⟩
         ·replace c38 := Bool.eq_false_iff.mpr c38; subst c38; rw [if_neg (show ¬ (false = true) by decide)] at H; have H' := Aside0.mk H; clear H; try go_wp2
          replace BK190 := Aside0.mk (blk_drew BK190.out); replace BK191 := Aside0.mk (blk_drew BK191.out); replace BK192 := Aside0.mk (blk_drew BK192.out); replace HB := Aside0.mk (below_drew1 HB.out); have p195 : 0 ≤ (x6_2 : Int) := od_; have q195 : x6_2 < (l0_0.length : Int) := od_; obtain ⟨ad195, e195, hx195_0, hx195_1, hx195_2, hx195_3, hx195_4, hx195_5, hx195_6, hx195_7, hx195_8, hx195_9⟩ := at_T46 HR0_0.out x6_2 p195 q195; have hw195_9 := hx195_9; have hw195_8 := hx195_8; have hw195_7 := hx195_7; have hw195_6 := hx195_6; have hw195_5 := hx195_5; have hw195_4 := hx195_4; have hw195_3 := hx195_3; have hw195_2 := hx195_2; have hw195_1 := hx195_1; have hw195_0 := hx195_0; cases e195; replace hx195_0 := ce_ HB.out hx195_0; replace hx195_1 := ce_ HB.out hx195_1; replace hx195_2 := ce_ HB.out hx195_2; replace hx195_3 := ce_ HB.out hx195_3; replace hx195_4 := ce_ HB.out hx195_4; replace hx195_5 := ce_ HB.out hx195_5; replace hx195_6 := ce_ HB.out hx195_6; replace hx195_7 := ce_ HB.out hx195_7; replace hx195_8 := ce_ HB.out hx195_8; replace hx195_9 := ce_ HB.out hx195_9; replace p195 := eq_true p195; replace q195 := eq_true q195; refine start_ (n := 14) (S := fun w' => w'.cell? ⟨gb190, 0, none⟩ = some (.slice (some ad195) l0_0.length c0_0) ∧ w'.cell? ⟨gb191, 0, none⟩ = some (.int .i64 a1_0) ∧ w'.cell? ⟨gb191, 1, none⟩ = some (.int .i64 a1_1) ∧ w'.cell? ⟨gb191, 2, none⟩ = some (.bool a1_2) ∧ w'.cell? ⟨gb191, 3, none⟩ = some (.int .i64 a1_3) ∧ w'.cell? ⟨gb191, 4, none⟩ = some (.int .i64 a1_4) ∧ w'.cell? ⟨gb191, 5, none⟩ = some (.int .i64 a1_5) ∧ w'.cell? ⟨gb191, 6, none⟩ = some (.int .i64 a1_6) ∧ w'.cell? ⟨gb191, 7, none⟩ = some (.int .i64 a1_7) ∧ w'.cell? ⟨gb191, 8, none⟩ = some (.int .i64 a1_8) ∧ w'.cell? ⟨gb191, 9, none⟩ = some (.string a1_9) ∧ w'.cell? (ad195.add ((x6_2).toNat * 10)) = some (.int .i64 ((rd_T46 l0_0 x6_2).f0)) ∧ w'.cell? ⟨(ad195.add ((x6_2).toNat * 10)).block, (ad195.add ((x6_2).toNat * 10)).off + 1, none⟩ = some (.int .i64 ((rd_T46 l0_0 x6_2).f1)) ∧ w'.cell? ⟨(ad195.add ((x6_2).toNat * 10)).block, (ad195.add ((x6_2).toNat * 10)).off + 2, none⟩ = some (.bool ((rd_T46 l0_0 x6_2).f2)) ∧ w'.cell? ⟨(ad195.add ((x6_2).toNat * 10)).block, (ad195.add ((x6_2).toNat * 10)).off + 3, none⟩ = some (.int .i64 ((rd_T46 l0_0 x6_2).f3)) ∧ w'.cell? ⟨(ad195.add ((x6_2).toNat * 10)).block, (ad195.add ((x6_2).toNat * 10)).off + 4, none⟩ = some (.int .i64 ((rd_T46 l0_0 x6_2).f4)) ∧ w'.cell? ⟨(ad195.add ((x6_2).toNat * 10)).block, (ad195.add ((x6_2).toNat * 10)).off + 5, none⟩ = some (.int .i64 ((rd_T46 l0_0 x6_2).f5)) ∧ w'.cell? ⟨(ad195.add ((x6_2).toNat * 10)).block, (ad195.add ((x6_2).toNat * 10)).off + 6, none⟩ = some (.int .i64 ((rd_T46 l0_0 x6_2).f6)) ∧ w'.cell? ⟨(ad195.add ((x6_2).toNat * 10)).block, (ad195.add ((x6_2).toNat * 10)).off + 7, none⟩ = some (.int .i64 ((rd_T46 l0_0 x6_2).f7)) ∧ w'.cell? ⟨(ad195.add ((x6_2).toNat * 10)).block, (ad195.add ((x6_2).toNat * 10)).off + 8, none⟩ = some (.int .i64 ((rd_T46 l0_0 x6_2).f8)) ∧ w'.cell? ⟨(ad195.add ((x6_2).toNat * 10)).block, (ad195.add ((x6_2).toNat * 10)).off + 9, none⟩ = some (.string ((rd_T46 l0_0 x6_2).f9))) (ds := []) #[ff,ff,ff,ff,ff,ff,ff,ff,ff,ff,ff,ff,ff,ff] (by kernel_rfl) rfl rfl ⟨(blk_cell BK190.out 0).trans rfl, (blk_cell BK191.out 0).trans rfl, (blk_cell BK191.out 1).trans rfl, (blk_cell BK191.out 2).trans rfl, (blk_cell BK191.out 3).trans rfl, (blk_cell BK191.out 4).trans rfl, (blk_cell BK191.out 5).trans rfl, (blk_cell BK191.out 6).trans rfl, (blk_cell BK191.out 7).trans rfl, (blk_cell BK191.out 8).trans rfl, (blk_cell BK191.out 9).trans rfl, (ce_ HB.out hw195_0), (ce_ HB.out hw195_1), (ce_ HB.out hw195_2), (ce_ HB.out hw195_3), (ce_ HB.out hw195_4), (ce_ HB.out hw195_5), (ce_ HB.out hw195_6), (ce_ HB.out hw195_7), (ce_ HB.out hw195_8), (ce_ HB.out hw195_9)⟩ (fun hHeld => ?_); refine with_tabW spec_AddPiece.tab4 spec_AddPiece.bits4 (fun HT_ HW_ => ?_); generalize wr.drew = w41 at BK190 BK191 BK192 HB hx195_0 hx195_1 hx195_2 hx195_3 hx195_4 hx195_5 hx195_6 hx195_7 hx195_8 hx195_9 hHeld ⊢; refine pP 0 22 (mB 14 1) HT_ ?_
          refine pP 1 23 (mB 14 3) HT_ ?_
          refine tK 2 24 (mB 14 7) HT_ HW_ hHeld ?_
          refine pP 3 25 (mB 14 15) HT_ ?_
          refine pP 4 26 (mB 14 31) HT_ ?_
          refine pP 5 27 (mB 14 63) HT_ ?_
          refine pP 6 28 (mB 14 127) HT_ ?_
          refine pP 8 30 (mB 14 383) HT_ ?_
          refine tK 7 29 (mB 14 511) HT_ HW_ hHeld ?_
          refine pP 9 31 (mB 14 1023) HT_ ?_
          refine tK 10 32 (mB 14 2047) HT_ HW_ hHeld ?_
          refine tK 11 33 (mB 14 4095) HT_ HW_ hHeld ?_
          refine oN 12 (some 34) (mB 14 8191) HT_ (fun K hK => ?_); refine goes_ Try.func46 (by kernel_rfl) rfl #[.agg #[.int .i64 ((rd_T46 l0_0 x6_2).f0), .int .i64 ((rd_T46 l0_0 x6_2).f1), .bool ((rd_T46 l0_0 x6_2).f2), .int .i64 ((rd_T46 l0_0 x6_2).f3), .int .i64 ((rd_T46 l0_0 x6_2).f4), .int .i64 ((rd_T46 l0_0 x6_2).f5), .int .i64 ((rd_T46 l0_0 x6_2).f6), .int .i64 ((rd_T46 l0_0 x6_2).f7), .int .i64 ((rd_T46 l0_0 x6_2).f8), .string ((rd_T46 l0_0 x6_2).f9)], .agg #[.int .i64 a1_0, .int .i64 a1_1, .bool a1_2, .int .i64 a1_3, .int .i64 a1_4, .int .i64 a1_5, .int .i64 a1_6, .int .i64 a1_7, .int .i64 a1_8, .string a1_9]] (by rfl) rfl rfl ma_ ?_; with_reducible refine (spec_l4Before.calls ((rd_T46 l0_0 x6_2).f0) ((rd_T46 l0_0 x6_2).f1) ((rd_T46 l0_0 x6_2).f2) ((rd_T46 l0_0 x6_2).f3) ((rd_T46 l0_0 x6_2).f4) ((rd_T46 l0_0 x6_2).f5) ((rd_T46 l0_0 x6_2).f6) ((rd_T46 l0_0 x6_2).f7) ((rd_T46 l0_0 x6_2).f8) ((rd_T46 l0_0 x6_2).f9) a1_0 a1_1 a1_2 a1_3 a1_4 a1_5 a1_6 a1_7 a1_8 a1_9 false _ A37.out).mono ?_
          rintro e w42 ⟨rfl, hb⟩
          refine ⟨_, rfl, ?_⟩; replace BK190 := ba_ BK190 hb; replace BK191 := ba_ BK191 hb; replace BK192 := ba_ BK192 hb; replace HB := hb_ HB hb; (try clear hb); (try clear hb2); (try clear hk); (try clear hi); refine hK.out _ _ ⟨(blk_cell BK190.out 0).trans rfl, (blk_cell BK191.out 0).trans rfl, (blk_cell BK191.out 1).trans rfl, (blk_cell BK191.out 2).trans rfl, (blk_cell BK191.out 3).trans rfl, (blk_cell BK191.out 4).trans rfl, (blk_cell BK191.out 5).trans rfl, (blk_cell BK191.out 6).trans rfl, (blk_cell BK191.out 7).trans rfl, (blk_cell BK191.out 8).trans rfl, (blk_cell BK191.out 9).trans rfl, (ce_ HB.out hw195_0), (ce_ HB.out hw195_1), (ce_ HB.out hw195_2), (ce_ HB.out hw195_3), (ce_ HB.out hw195_4), (ce_ HB.out hw195_5), (ce_ HB.out hw195_6), (ce_ HB.out hw195_7), (ce_ HB.out hw195_8), (ce_ HB.out hw195_9)⟩ (fun hHeld => ?_); clear hK K; refine nO 34 ?_
          refine pP 13 35 (mB 14 16383) HT_ ?_
          refine done_ (done_of HT_.out (by kernel_rfl)) ?_; try go_wp2
          go_meet
          case rel => exact ⟨_, (x6_2), fs_, H', ⟨by have := HJ2.out; have := HK2.out; first | omega | exact Nat.le_refl _⟩, ⟨pq_⟩, ⟨pq_⟩, ⟨pq_⟩, ⟨bq_ HB⟩⟩
        ·rw [if_neg c36] at H; exact no_ H
       ·rw [if_neg c35] at H; have c35b0 : decide (x6_2 < (l0_0.length : Int)) = false := decide_eq_false c35; clear c35; (first | rw [c35b0] | (simp only [i64_w, i32_w]; rw [c35b0]) | skip); have H' := Aside0.mk H; clear H; try go_wp2
        replace BK190 := Aside0.mk (blk_drew BK190.out); replace BK191 := Aside0.mk (blk_drew BK191.out); replace BK192 := Aside0.mk (blk_drew BK192.out); replace HB := Aside0.mk (below_drew1 HB.out); refine start_ (n := 14) (S := fun w' => w'.cell? ⟨gb190, 0, none⟩ = some (.slice A0_0 l0_0.length c0_0)) (ds := []) #[ff,ff,ff,ff,ff,ff,ff,ff,ff,ff,ff,ff,ff,ff] (by kernel_rfl) rfl rfl ((blk_cell BK190.out 0).trans rfl) (fun hHeld => ?_); refine with_tabW spec_AddPiece.tab4 spec_AddPiece.bits4 (fun HT_ HW_ => ?_); generalize wr.drew = w43 at BK190 BK191 BK192 HB hHeld ⊢; refine pP 0 22 (mB 14 1) HT_ ?_
        refine pP 1 23 (mB 14 3) HT_ ?_
        refine take_ (i := 2) (N := some 24) (v := ?_) (a' := ?_) #[tt,tt,tt,ff,ff,ff,ff,ff,ff,ff,ff,ff,ff,ff] rfl rfl (take_ofW HT_.out HW_.out (by kernel_rfl)) (fun _ _ _ h => h) (Or.inl ⟨by rfl, ?_⟩) hHeld ?_ ?_; rotate_left
        ·intro w' s0; go_simp; with_reducible rfl
        rotate_left
        ·simp only [Act.put, List.setIfInBounds_toArray, List.set_cons_zero, List.set_cons_succ, i64_w, i32_w]; rfl
        refine pP 3 25 (mB 14 15) HT_ ?_
        refine pP 4 26 (mB 14 31) HT_ ?_
        refine pP 5 27 (mB 14 63) HT_ ?_
        refine pQ 6 28 (mB 14 127) HT_ ?_
        refine pQ 7 29 (mB 14 255) HT_ ?_
        refine pQ 8 30 (mB 14 511) HT_ ?_
        refine pQ 9 31 (mB 14 1023) HT_ ?_
        refine pQ 10 32 (mB 14 2047) HT_ ?_
        refine pQ 11 33 (mB 14 4095) HT_ ?_
        refine pQ 12 34 (mB 14 8191) HT_ ?_
        refine pP 13 35 (mB 14 16383) HT_ ?_
        refine done_ (done_of HT_.out (by kernel_rfl)) ?_; try go_wp2
        go_meet
        case rel => exact ⟨_, (x6_2), fs_, H', ⟨by have := HJ2.out; have := HK2.out; first | omega | exact Nat.le_refl _⟩, ⟨pq_⟩, ⟨pq_⟩, ⟨pq_⟩, ⟨bq_ HB⟩⟩
    case rest =>
     clear HC34; try clear c1
     try clear p1
     try clear q1
     try clear hx1
     try clear c2
     try clear p2
     try clear c3
     try clear c4
     try clear p6
     try clear c8
     try clear c10
     try clear c11
     try clear c12
     try clear c15
     try clear c19
     try clear p19
     try clear q19
     try clear hx19
     try clear c20
     try clear c23
     try clear c24
     try clear c26
     try clear c27
     try clear c30
     try clear c31
     try clear c32
     try clear c35
     try clear c35b0
     try clear c36
     try clear c36b0
     try clear c38
     try clear hcz13_0
     try clear hcz16_0
     try clear hcz16_1
     try clear hcz16_2
     try clear hcz16_3
     try clear hcz16_4
     try clear hcz16_5
     try clear hcz16_6
     try clear hcz16_7
     try clear hcz16_8
     try clear hcz16_9
     try clear hcz18_0
     try clear hcz18_1
     try clear hcz18_2
     try clear hcz18_3
     try clear hcz18_4
     try clear hcz18_5
     try clear hcz18_6
     try clear hcz18_7
     try clear hcz18_8
     try clear hcz18_9
     try clear hcz21_0
     try clear hcz24_0
     try clear hcz24_1
     try clear hcz24_2
     try clear hcz24_3
     try clear hcz24_4
     try clear hcz24_5
     try clear hcz24_6
     try clear hcz24_7
     try clear hcz24_8
     try clear hcz24_9
     try clear hcz28_0
     try clear hcz33_0
     try clear hfz13_0
     try clear hfz16_0
     try clear hfz16_1
     try clear hfz16_2
     try clear hfz16_3
     try clear hfz16_4
     try clear hfz16_5
     try clear hfz16_6
     try clear hfz16_7
     try clear hfz16_8
     try clear hfz16_9
     try clear hfz18_0
     try clear hfz18_1
     try clear hfz18_2
     try clear hfz18_3
     try clear hfz18_4
     try clear hfz18_5
     try clear hfz18_6
     try clear hfz18_7
     try clear hfz18_8
     try clear hfz18_9
     try clear hfz21_0
     try clear hfz24_0
     try clear hfz24_1
     try clear hfz24_2
     try clear hfz24_3
     try clear hfz24_4
     try clear hfz24_5
     try clear hfz24_6
     try clear hfz24_7
     try clear hfz24_8
     try clear hfz24_9
     try clear hfz28_0
     try clear hfz33_0
     try clear hx195_0
     try clear hx195_1
     try clear hx195_2
     try clear hx195_3
     try clear hx195_4
     try clear hx195_5
     try clear hx195_6
     try clear hx195_7
     try clear hx195_8
     try clear hx195_9
     try clear p195
     try clear p2
     try clear q195
     obtain ⟨kq, x6_33, rfl, HA, HJ33, BK190, BK191, BK192, HB⟩ := hcut; cases kq with
     | zero => exact absurd HA.out (by simp [spec_AddPiece.j2])
     | succ kj33 =>
      have H := HA.out; clear HA; simp only [spec_AddPiece.j2] at H; obtain ⟨y197, hy197⟩ : ∃ y_ : List (S46), y_ = (([] : List (S46))) := ⟨_, rfl⟩
      rw [← hy197] at H
      (try rw [Option.bind_some] at H)
      have Ny197 := Aside0.mk hy197; clear hy197; by_cases c44 : 0 ≤ x6_33
      ·rw [if_pos c44] at H; have c44b0 := eq_true c44; have c44b1 : decide (0 ≤ x6_33) = true := decide_eq_true c44; clear c44; by_cases c45 : x6_33 ≤ (l0_0.length : Int)
       ·rw [if_pos c45] at H; have c45b0 := eq_true c45; have c45b1 : decide (x6_33 ≤ (l0_0.length : Int)) = true := decide_eq_true c45; clear c45; obtain ⟨y200, hy200⟩ : ∃ y_ : List (S46), y_ = (l0_0.take (x6_33 : Int).toNat) := ⟨_, rfl⟩
        rw [← hy200] at H
        (try rw [Option.bind_some] at H)
        have Ny200 := Aside0.mk hy200; clear hy200; by_cases c46 : y197.length + y200.length < 1599289640401
        ·rw [if_pos c46] at H; have LMc46 := Aside0.mk c46; clear c46; obtain ⟨y204, hy204⟩ : ∃ y_ : List (S46), y_ = (y197 ++ y200) := ⟨_, rfl⟩
         rw [← hy204] at H
         (try rw [Option.bind_some] at H)
         have Ny204 := Aside0.mk hy204; clear hy204; have HC47 := Aside0.mk H; clear H; go_upto_region 7 with (first | ((with_reducible refine gate_dst (N := 38) rfl ?_); refine Kd.R_lit k46 _ 46 ?hg (N := 38) ?hd (xs := ([] : List (S46))) (inner := []) (ok := fun _ => True) (okp := fun _ => True) ?hr ?hp (fun _ hk => hk) trivial (Below.refl _ _) (Nat.le_refl _) (by simp) ?_; (case hd => rfl); (case hg => rfl); (case hr => first | (go_simp; done) | (go_simp; rfl)); (case hp => exact (Reps.none _ _)); intro v198 w48 ho49 hb hg_ hnew_; clear hg_ hnew_; (first | rw [← Ny197.out] at ho49 | (simp only [Int.reduceToNat] at ho49; rw [← Ny197.out] at ho49)); have HO199 := Aside0.mk (Kd.R_lower (Kd.R_newB ho49 (g := gb191) (o := .cells #[.int .i64 a1_0, .int .i64 a1_1, .bool a1_2, .int .i64 a1_3, .int .i64 a1_4, .int .i64 a1_5, .int .i64 a1_6, .int .i64 a1_7, .int .i64 a1_8, .string a1_9] 46 (0, 0)) pq_) (below_size (bq_ HB))); replace BK190 := ba_ BK190 hb; replace BK191 := ba_ BK191 hb; replace BK192 := ba_ BK192 hb; replace HB := hb_ HB hb; clear hb ho49; have hnb50 := NB190_191.out; have hnc50 := NB191_190.out; have hnb51 := NB190_192.out; have hnc51 := NB192_190.out; have hcz52_0 : w48.cell? ⟨gb190, 0, none⟩ = some (.slice A0_0 l0_0.length c0_0) := (blk_cell BK190.out 0).trans rfl; have hfz52_0 := blk_frozen BK190.out 0; have q53 : (x6_33 : Int) ≤ ((l0_0.length : Int) : Int) := od_; obtain ⟨i053, hi053, _, hsz53, _⟩ := info_parts info46; have hroom53 : l0_0.length ≤ c0_0 := HC0_0.out; have hC53 : Kd.C k46 _ A0_0 l0_0.length l0_0 := HR0_0.out; have hcut53 := cut_to (P := Try.prog) 27 46 .i64 Try.underlying27 hi053 A0_0 l0_0.length c0_0 x6_33 (od_) q53 hroom53; have hr53 := Kd.C_take (m := (x6_33 : Int).toNat) hC53 (by omega); have hy53 : y200.length = (x6_33 : Int).toNat := (by rw [Ny200.out, List.length_take]; omega); rw [← Ny200.out] at hr53; rw [← hy53] at hcut53; have HR203 := Aside0.mk hr53; have HC203 := Aside0.mk (show y200.length ≤ c0_0 from by omega); clear hr53 hC53 hroom53 hi053 hsz53; have KY53 := Aside0.mk hy53; clear hy53; replace q53 := eq_true q53) | ((with_reducible refine gate_builtin (b := .append) (xs := #[.tmp 38, .tmp 42]) rfl ?_); at_builtin; refine Kd.R_append_rows k46 (w0 := w) w.heap.size rfl (.tmp 38) (.tmp 42) 27 46 (.agg #[(.int .i64 0), (.int .i64 0), (.bool false), (.int .i64 0), (.int .i64 0), (.int .i64 0), (.int .i64 0), (.int .i64 0), (.int .i64 0), (.string ⟨#[]⟩)]) 88 rfl Try.underlying27 info46 rfl (by decide) (by omega) v198 y197 y200 _ _ _ (fun k_ => k_ ≠ gb191) (fun _ => False) rfl rfl ?aO ?aR (fun _ _ h => h) (fun _ h => h.elim) ?aF ?aB ?aS ?aL ?_; (case aR => repeat (first | exact (Kd.C_below HR203.out HB.out) | with_reducible first | refine Kd.C_alloc ?_ _ | refine Kd.C_drewN ?_ _ | refine Kd.C_drew ?_)); (case aB => exact (bq_ HB)); (case aF => exact (fun k_ hk => Kd.freshB (g := gb191) (o := .cells #[.int .i64 a1_0, .int .i64 a1_1, .bool a1_2, .int .i64 a1_3, .int .i64 a1_4, .int .i64 a1_5, .int .i64 a1_6, .int .i64 a1_7, .int .i64 a1_8, .string a1_9] 46 (0, 0)) pq_ k_ hk)); (case aO => exact (by (with_reducible repeat (first | apply Kd.R_alloc | apply Kd.R_drewN | apply Kd.R_drew)); exact Kd.R_mono HO199.out (fun _ hk => hk.2))); (case aS => exact (below_size (bq_ HB))); (case aL => have := LMc46.out; omega); intro v205 w54 ho hb hg hat; rw [← Ny204.out] at ho; replace BK190 := bg_ BK190 hg (Kd.R_ne HO199.out BK190.out (by decide)); replace BK191 := bg_ BK191 hg (Kd.R_away HO199.out (fun _ hk => hk.2)); replace BK192 := bg_ BK192 hg (Kd.R_ne HO199.out BK192.out (by decide)); replace HB := Aside0.mk (hb); have HO206 := Aside0.mk (ho); clear HO199; clear ho hb hg hat; obtain ⟨Ao55, co55, eo55⟩ := Kd.R_slice HO206.out; subst eo55) | ((with_reducible refine gate_dst (N := 7) rfl ?_); refine be_ 7 29 #[.slice none 0 0] ?_; intro gb207 hg w56 hbox hb; replace HO206 := ra_ HO206 hb; have BK207 := Aside0.mk (hbox); have GW207 := ge_ HB hg; have GE207 := ge_ HB hg; replace HB := hb_ HB hb; have NB190_207 := nl_ BK190 hg; have NB207_190 := ng_ BK190 hg; replace BK190 := ba_ BK190 hb; have NB191_207 := nl_ BK191 hg; have NB207_191 := ng_ BK191 hg; replace BK191 := ba_ BK191 hb; have NB192_207 := nl_ BK192 hg; have NB207_192 := ng_ BK192 hg; replace BK192 := ba_ BK192 hb; clear hb hbox hg; have hnb57 := NB207_190.out; have hnc57 := NB190_207.out; have hnb58 := NB207_191.out; have hnc58 := NB191_207.out; have hnb59 := NB207_192.out; have hnc59 := NB192_207.out; have hcz60_0 : w56.cell? ⟨gb207, 0, none⟩ = some (.slice none 0 0) := (blk_cell BK207.out 0).trans rfl; have hfz60_0 := blk_frozen BK207.out 0))
         (try simp only [Act.put, List.setIfInBounds_toArray, List.set_cons_zero, List.set_cons_succ])
         go_cut [58] (fun v58 wc => ∃ (kq : Nat) (x58_46 : Bool), v58 = .bool x58_46 ∧ Aside0 (spec_AddPiece.j3 kq x6_33 x58_46 l0_0 a1_0 a1_1 a1_2 a1_3 a1_4 a1_5 a1_6 a1_7 a1_8 a1_9 y204 = some (r1, r2)) ∧ Aside0 (kq ≤ kj33) ∧ Aside0 (Kd.R k46 46 wc w.heap.size (fun k_ => k_ ≠ gb191) (.slice Ao55 y204.length co55) y204) ∧ Aside0 (wc.heap[gb190]? = some (.cells #[(.slice A0_0 l0_0.length c0_0)] 29 (0, 0))) ∧ Aside0 (wc.heap[gb191]? = some (.cells #[.int .i64 a1_0, .int .i64 a1_1, .bool a1_2, .int .i64 a1_3, .int .i64 a1_4, .int .i64 a1_5, .int .i64 a1_6, .int .i64 a1_7, .int .i64 a1_8, .string a1_9] 46 (0, 0))) ∧ Aside0 (wc.heap[gb192]? = some (.cells #[(.slice none 0 0)] 29 (0, 0))) ∧ Aside0 (wc.heap[gb207]? = some (.cells #[(.slice Ao55 y204.length co55)] 29 (0, 0))) ∧ Aside0 (Below w.heap.size w wc))
         case first =>
          have H := HC47.out; clear HC47; by_cases c61 : x6_33 = (l0_0.length : Int)
          ·rw [if_pos c61] at H; have c61b0 : (x6_33 == (l0_0.length : Int)) = true := beq_iff_eq.mpr c61; have c61b1 : (x6_33 != (l0_0.length : Int)) = false := bne_eq_false_iff_eq.mpr c61; clear c61; (first | rw [c61b0] | (simp only [i64_w, i32_w]; rw [c61b0]) | skip); have H' := Aside0.mk H; clear H; try go_wp2
           have n0_ : Aside0 (Kd.R k46 46 (w56.setCell ⟨gb207, 0, none⟩ (.slice Ao55 y204.length co55)) w.heap.size (fun k_ => k_ ≠ gb191) (.slice Ao55 y204.length co55) y204) := ⟨by (with_reducible repeat (first | apply Kd.R_alloc | apply Kd.R_drewN | apply Kd.R_drew)); exact Kd.R_mono (Kd.R_far (p := ⟨gb207, 0, none⟩) (Kd.R_types HO206.out BK207.out (by decide)) (fun _ hk => hk.2) (.slice Ao55 y204.length co55)) (fun _ hk => hk.1)⟩
           have n1_ : Aside0 ((w56.setCell ⟨gb207, 0, none⟩ (.slice Ao55 y204.length co55)).heap[gb190]? = some (.cells #[.slice A0_0 l0_0.length c0_0] 29 (0, 0))) := ⟨by (with_reducible repeat (first | refine blk_drewN ?_ _ | refine blk_drew ?_ | refine blk_alloc ?_ _)); refine blk_far ?_ NB190_207.out _; (with_reducible repeat (first | refine blk_drewN ?_ _ | refine blk_drew ?_ | refine blk_alloc ?_ _)); exact BK190.out⟩
           have n2_ : Aside0 ((w56.setCell ⟨gb207, 0, none⟩ (.slice Ao55 y204.length co55)).heap[gb191]? = some (.cells #[.int .i64 a1_0, .int .i64 a1_1, .bool a1_2, .int .i64 a1_3, .int .i64 a1_4, .int .i64 a1_5, .int .i64 a1_6, .int .i64 a1_7, .int .i64 a1_8, .string a1_9] 46 (0, 0))) := ⟨by (with_reducible repeat (first | refine blk_drewN ?_ _ | refine blk_drew ?_ | refine blk_alloc ?_ _)); refine blk_far ?_ NB191_207.out _; (with_reducible repeat (first | refine blk_drewN ?_ _ | refine blk_drew ?_ | refine blk_alloc ?_ _)); exact BK191.out⟩
           have n3_ : Aside0 ((w56.setCell ⟨gb207, 0, none⟩ (.slice Ao55 y204.length co55)).heap[gb192]? = some (.cells #[.slice none 0 0] 29 (0, 0))) := ⟨by (with_reducible repeat (first | refine blk_drewN ?_ _ | refine blk_drew ?_ | refine blk_alloc ?_ _)); refine blk_far ?_ NB192_207.out _; (with_reducible repeat (first | refine blk_drewN ?_ _ | refine blk_drew ?_ | refine blk_alloc ?_ _)); exact BK192.out⟩
           have n4_ : Aside0 ((w56.setCell ⟨gb207, 0, none⟩ (.slice Ao55 y204.length co55)).heap[gb207]? = some (.cells #[.slice Ao55 y204.length co55] 29 (0, 0))) := ⟨by (with_reducible repeat (first | refine blk_drewN ?_ _ | refine blk_drew ?_ | refine blk_alloc ?_ _)); refine blk_put (cs := #[.slice none 0 0]) ?_ 0 _ rfl; (with_reducible repeat (first | refine blk_drewN ?_ _ | refine blk_drew ?_ | refine blk_alloc ?_ _)); exact BK207.out⟩
           have n5_ : Aside0 (Below w.heap.size w (w56.setCell ⟨gb207, 0, none⟩ (.slice Ao55 y204.length co55))) := ⟨bq_ HB⟩
           (try clear HO206); (try clear BK190); (try clear BK191); (try clear BK192); (try clear BK207); (try clear HB); generalize (w56.setCell ⟨gb207, 0, none⟩ (.slice Ao55 y204.length co55)) = w62 at n0_ n1_ n2_ n3_ n4_ n5_ ⊢; have HO206 := n0_; have BK190 := n1_; have BK191 := n2_; have BK192 := n3_; have BK207 := n4_; have HB := n5_; clear n0_ n1_ n2_ n3_ n4_ n5_; replace HO206 := Aside0.mk (Kd.R_drew HO206.out); replace BK190 := Aside0.mk (blk_drew BK190.out); replace BK191 := Aside0.mk (blk_drew BK191.out); replace BK192 := Aside0.mk (blk_drew BK192.out); replace BK207 := Aside0.mk (blk_drew BK207.out); replace HB := Aside0.mk (below_drew1 HB.out); refine start_ (n := 14) (S := fun w' => w'.cell? ⟨gb190, 0, none⟩ = some (.slice A0_0 l0_0.length c0_0)) (ds := []) #[ff,ff,ff,ff,ff,ff,ff,ff,ff,ff,ff,ff,ff,ff] (by kernel_rfl) rfl rfl ((blk_cell BK190.out 0).trans rfl) (fun hHeld => ?_); refine with_tabW spec_AddPiece.tab7 spec_AddPiece.bits7 (fun HT_ HW_ => ?_); generalize w62.drew = w63 at HO206 BK190 BK191 BK192 BK207 HB hHeld ⊢; refine pP 0 45 (mB 14 1) HT_ ?_
           refine pP 1 46 (mB 14 3) HT_ ?_
           refine take_ (i := 2) (N := some 47) (v := ?_) (a' := ?_) #[tt,tt,tt,ff,ff,ff,ff,ff,ff,ff,ff,ff,ff,ff] rfl rfl (take_ofW HT_.out HW_.out (by kernel_rfl)) (fun _ _ _ h => h) (Or.inl ⟨by rfl, ?_⟩) hHeld ?_ ?_; rotate_left
           ·intro w' s0; go_simp; with_reducible rfl
           rotate_left
           ·simp only [Act.put, List.setIfInBounds_toArray, List.set_cons_zero, List.set_cons_succ, i64_w, i32_w]; rfl
           refine pP 3 48 (mB 14 15) HT_ ?_
           refine pP 4 49 (mB 14 31) HT_ ?_
           refine pP 5 50 (mB 14 63) HT_ ?_
           refine pQ 6 51 (mB 14 127) HT_ ?_
           refine pQ 7 52 (mB 14 255) HT_ ?_
           refine pQ 8 53 (mB 14 511) HT_ ?_
           refine pQ 9 54 (mB 14 1023) HT_ ?_
           refine pQ 10 55 (mB 14 2047) HT_ ?_
           refine pQ 11 56 (mB 14 4095) HT_ ?_
           refine pQ 12 57 (mB 14 8191) HT_ ?_
           refine pP 13 58 (mB 14 16383) HT_ ?_
           refine done_ (done_of HT_.out (by kernel_rfl)) ?_; try go_wp2
           go_meet
           case rel => exact ⟨_, (true), fs_, H', ⟨by have := HJ2.out; have := HJ33.out; first | omega | exact Nat.le_refl _⟩, ⟨rq_⟩, ⟨pq_⟩, ⟨pq_⟩, ⟨pq_⟩, ⟨pq_⟩, ⟨bq_ HB⟩⟩
          ·rw [if_neg c61] at H; have c61b0 : (x6_33 == (l0_0.length : Int)) = false := beq_eq_false_iff_ne.mpr c61; have c61b1 : (x6_33 != (l0_0.length : Int)) = true := bne_iff_ne.mpr c61; (first | rw [c61b0] | (simp only [i64_w, i32_w]; rw [c61b0]) | skip); by_cases c64 : x6_33 < (l0_0.length : Int)
           ·rw [if_pos c64] at H; have c64b0 : decide (x6_33 < (l0_0.length : Int)) = true := decide_eq_true c64; clear c64; replace H := Option.bind_eq_some_iff.mp H; obtain ⟨t209, A650, H⟩ := H; (try dsimp only at H); have A65 := Aside0.mk A650; clear A650; have H' := Aside0.mk H; clear H; try go_wp2
            have n0_ : Aside0 (Kd.R k46 46 (w56.setCell ⟨gb207, 0, none⟩ (.slice Ao55 y204.length co55)) w.heap.size (fun k_ => k_ ≠ gb191) (.slice Ao55 y204.length co55) y204) := ⟨by (with_reducible repeat (first | apply Kd.R_alloc | apply Kd.R_drewN | apply Kd.R_drew)); exact Kd.R_mono (Kd.R_far (p := ⟨gb207, 0, none⟩) (Kd.R_types HO206.out BK207.out (by decide)) (fun _ hk => hk.2) (.slice Ao55 y204.length co55)) (fun _ hk => hk.1)⟩
            have n1_ : Aside0 ((w56.setCell ⟨gb207, 0, none⟩ (.slice Ao55 y204.length co55)).heap[gb190]? = some (.cells #[.slice A0_0 l0_0.length c0_0] 29 (0, 0))) := ⟨by (with_reducible repeat (first | refine blk_drewN ?_ _ | refine blk_drew ?_ | refine blk_alloc ?_ _)); refine blk_far ?_ NB190_207.out _; (with_reducible repeat (first | refine blk_drewN ?_ _ | refine blk_drew ?_ | refine blk_alloc ?_ _)); exact BK190.out⟩
            have n2_ : Aside0 ((w56.setCell ⟨gb207, 0, none⟩ (.slice Ao55 y204.length co55)).heap[gb191]? = some (.cells #[.int .i64 a1_0, .int .i64 a1_1, .bool a1_2, .int .i64 a1_3, .int .i64 a1_4, .int .i64 a1_5, .int .i64 a1_6, .int .i64 a1_7, .int .i64 a1_8, .string a1_9] 46 (0, 0))) := ⟨by (with_reducible repeat (first | refine blk_drewN ?_ _ | refine blk_drew ?_ | refine blk_alloc ?_ _)); refine blk_far ?_ NB191_207.out _; (with_reducible repeat (first | refine blk_drewN ?_ _ | refine blk_drew ?_ | refine blk_alloc ?_ _)); exact BK191.out⟩
            have n3_ : Aside0 ((w56.setCell ⟨gb207, 0, none⟩ (.slice Ao55 y204.length co55)).heap[gb192]? = some (.cells #[.slice none 0 0] 29 (0, 0))) := ⟨by (with_reducible repeat (first | refine blk_drewN ?_ _ | refine blk_drew ?_ | refine blk_alloc ?_ _)); refine blk_far ?_ NB192_207.out _; (with_reducible repeat (first | refine blk_drewN ?_ _ | refine blk_drew ?_ | refine blk_alloc ?_ _)); exact BK192.out⟩
            have n4_ : Aside0 ((w56.setCell ⟨gb207, 0, none⟩ (.slice Ao55 y204.length co55)).heap[gb207]? = some (.cells #[.slice Ao55 y204.length co55] 29 (0, 0))) := ⟨by (with_reducible repeat (first | refine blk_drewN ?_ _ | refine blk_drew ?_ | refine blk_alloc ?_ _)); refine blk_put (cs := #[.slice none 0 0]) ?_ 0 _ rfl; (with_reducible repeat (first | refine blk_drewN ?_ _ | refine blk_drew ?_ | refine blk_alloc ?_ _)); exact BK207.out⟩
            have n5_ : Aside0 (Below w.heap.size w (w56.setCell ⟨gb207, 0, none⟩ (.slice Ao55 y204.length co55))) := ⟨bq_ HB⟩
            (try clear HO206); (try clear BK190); (try clear BK191); (try clear BK192); (try clear BK207); (try clear HB); generalize (w56.setCell ⟨gb207, 0, none⟩ (.slice Ao55 y204.length co55)) = w66 at n0_ n1_ n2_ n3_ n4_ n5_ ⊢; have HO206 := n0_; have BK190 := n1_; have BK191 := n2_; have BK192 := n3_; have BK207 := n4_; have HB := n5_; clear n0_ n1_ n2_ n3_ n4_ n5_; replace HO206 := Aside0.mk (Kd.R_drew HO206.out); replace BK190 := Aside0.mk (blk_drew BK190.out); replace BK191 := Aside0.mk (blk_drew BK191.out); replace BK192 := Aside0.mk (blk_drew BK192.out); replace BK207 := Aside0.mk (blk_drew BK207.out); replace HB := Aside0.mk (below_drew1 HB.out); have p208 : 0 ≤ (x6_33 : Int) := od_; have q208 : x6_33 < (l0_0.length : Int) := od_; obtain ⟨ad208, e208, hx208_0, hx208_1, hx208_2, hx208_3, hx208_4, hx208_5, hx208_6, hx208_7, hx208_8, hx208_9⟩ := at_T46 HR0_0.out x6_33 p208 q208; have hw208_9 := hx208_9; have hw208_8 := hx208_8; have hw208_7 := hx208_7; have hw208_6 := hx208_6; have hw208_5 := hx208_5; have hw208_4 := hx208_4; have hw208_3 := hx208_3; have hw208_2 := hx208_2; have hw208_1 := hx208_1; have hw208_0 := hx208_0; cases e208; replace hx208_0 := ce_ HB.out hx208_0; replace hx208_1 := ce_ HB.out hx208_1; replace hx208_2 := ce_ HB.out hx208_2; replace hx208_3 := ce_ HB.out hx208_3; replace hx208_4 := ce_ HB.out hx208_4; replace hx208_5 := ce_ HB.out hx208_5; replace hx208_6 := ce_ HB.out hx208_6; replace hx208_7 := ce_ HB.out hx208_7; replace hx208_8 := ce_ HB.out hx208_8; replace hx208_9 := ce_ HB.out hx208_9; replace p208 := eq_true p208; replace q208 := eq_true q208; refine start_ (n := 14) (S := fun w' => w'.cell? ⟨gb190, 0, none⟩ = some (.slice (some ad208) l0_0.length c0_0) ∧ w'.cell? ⟨gb191, 0, none⟩ = some (.int .i64 a1_0) ∧ w'.cell? ⟨gb191, 1, none⟩ = some (.int .i64 a1_1) ∧ w'.cell? ⟨gb191, 2, none⟩ = some (.bool a1_2) ∧ w'.cell? ⟨gb191, 3, none⟩ = some (.int .i64 a1_3) ∧ w'.cell? ⟨gb191, 4, none⟩ = some (.int .i64 a1_4) ∧ w'.cell? ⟨gb191, 5, none⟩ = some (.int .i64 a1_5) ∧ w'.cell? ⟨gb191, 6, none⟩ = some (.int .i64 a1_6) ∧ w'.cell? ⟨gb191, 7, none⟩ = some (.int .i64 a1_7) ∧ w'.cell? ⟨gb191, 8, none⟩ = some (.int .i64 a1_8) ∧ w'.cell? ⟨gb191, 9, none⟩ = some (.string a1_9) ∧ w'.cell? (ad208.add ((x6_33).toNat * 10)) = some (.int .i64 ((rd_T46 l0_0 x6_33).f0)) ∧ w'.cell? ⟨(ad208.add ((x6_33).toNat * 10)).block, (ad208.add ((x6_33).toNat * 10)).off + 1, none⟩ = some (.int .i64 ((rd_T46 l0_0 x6_33).f1)) ∧ w'.cell? ⟨(ad208.add ((x6_33).toNat * 10)).block, (ad208.add ((x6_33).toNat * 10)).off + 2, none⟩ = some (.bool ((rd_T46 l0_0 x6_33).f2)) ∧ w'.cell? ⟨(ad208.add ((x6_33).toNat * 10)).block, (ad208.add ((x6_33).toNat * 10)).off + 3, none⟩ = some (.int .i64 ((rd_T46 l0_0 x6_33).f3)) ∧ w'.cell? ⟨(ad208.add ((x6_33).toNat * 10)).block, (ad208.add ((x6_33).toNat * 10)).off + 4, none⟩ = some (.int .i64 ((rd_T46 l0_0 x6_33).f4)) ∧ w'.cell? ⟨(ad208.add ((x6_33).toNat * 10)).block, (ad208.add ((x6_33).toNat * 10)).off + 5, none⟩ = some (.int .i64 ((rd_T46 l0_0 x6_33).f5)) ∧ w'.cell? ⟨(ad208.add ((x6_33).toNat * 10)).block, (ad208.add ((x6_33).toNat * 10)).off + 6, none⟩ = some (.int .i64 ((rd_T46 l0_0 x6_33).f6)) ∧ w'.cell? ⟨(ad208.add ((x6_33).toNat * 10)).block, (ad208.add ((x6_33).toNat * 10)).off + 7, none⟩ = some (.int .i64 ((rd_T46 l0_0 x6_33).f7)) ∧ w'.cell? ⟨(ad208.add ((x6_33).toNat * 10)).block, (ad208.add ((x6_33).toNat * 10)).off + 8, none⟩ = some (.int .i64 ((rd_T46 l0_0 x6_33).f8)) ∧ w'.cell? ⟨(ad208.add ((x6_33).toNat * 10)).block, (ad208.add ((x6_33).toNat * 10)).off + 9, none⟩ = some (.string ((rd_T46 l0_0 x6_33).f9))) (ds := []) #[ff,ff,ff,ff,ff,ff,ff,ff,ff,ff,ff,ff,ff,ff] (by kernel_rfl) rfl rfl ⟨(blk_cell BK190.out 0).trans rfl, (blk_cell BK191.out 0).trans rfl, (blk_cell BK191.out 1).trans rfl, (blk_cell BK191.out 2).trans rfl, (blk_cell BK191.out 3).trans rfl, (blk_cell BK191.out 4).trans rfl, (blk_cell BK191.out 5).trans rfl, (blk_cell BK191.out 6).trans rfl, (blk_cell BK191.out 7).trans rfl, (blk_cell BK191.out 8).trans rfl, (blk_cell BK191.out 9).trans rfl, (ce_ HB.out hw208_0), (ce_ HB.out hw208_1), (ce_ HB.out hw208_2), (ce_ HB.out hw208_3), (ce_ HB.out hw208_4), (ce_ HB.out hw208_5), (ce_ HB.out hw208_6), (ce_ HB.out hw208_7), (ce_ HB.out hw208_8), (ce_ HB.out hw208_9)⟩ (fun hHeld => ?_); refine with_tabW spec_AddPiece.tab7 spec_AddPiece.bits7 (fun HT_ HW_ => ?_); generalize w66.drew = w67 at HO206 BK190 BK191 BK192 BK207 HB hx208_0 hx208_1 hx208_2 hx208_3 hx208_4 hx208_5 hx208_6 hx208_7 hx208_8 hx208_9 hHeld ⊢; refine pP 0 45 (mB 14 1) HT_ ?_
            refine pP 1 46 (mB 14 3) HT_ ?_
            refine tK 2 47 (mB 14 7) HT_ HW_ hHeld ?_
            refine pP 3 48 (mB 14 15) HT_ ?_
            refine pP 4 49 (mB 14 31) HT_ ?_
            refine pP 5 50 (mB 14 63) HT_ ?_
            refine pP 7 52 (mB 14 191) HT_ ?_
            refine pP 9 54 (mB 14 703) HT_ ?_
            refine tK 6 51 (mB 14 767) HT_ HW_ hHeld ?_
            refine tK 8 53 (mB 14 1023) HT_ HW_ hHeld ?_
            refine pP 10 55 (mB 14 2047) HT_ ?_
            refine tK 11 56 (mB 14 4095) HT_ HW_ hHeld ?_
            refine oN 12 (some 57) (mB 14 8191) HT_ (fun K hK => ?_); refine goes_ Try.func46 (by kernel_rfl) rfl #[.agg #[.int .i64 a1_0, .int .i64 a1_1, .bool a1_2, .int .i64 a1_3, .int .i64 a1_4, .int .i64 a1_5, .int .i64 a1_6, .int .i64 a1_7, .int .i64 a1_8, .string a1_9], .agg #[.int .i64 ((rd_T46 l0_0 x6_33).f0), .int .i64 ((rd_T46 l0_0 x6_33).f1), .bool ((rd_T46 l0_0 x6_33).f2), .int .i64 ((rd_T46 l0_0 x6_33).f3), .int .i64 ((rd_T46 l0_0 x6_33).f4), .int .i64 ((rd_T46 l0_0 x6_33).f5), .int .i64 ((rd_T46 l0_0 x6_33).f6), .int .i64 ((rd_T46 l0_0 x6_33).f7), .int .i64 ((rd_T46 l0_0 x6_33).f8), .string ((rd_T46 l0_0 x6_33).f9)]] (by rfl) rfl rfl ma_ ?_; with_reducible refine (spec_l4Before.calls a1_0 a1_1 a1_2 a1_3 a1_4 a1_5 a1_6 a1_7 a1_8 a1_9 ((rd_T46 l0_0 x6_33).f0) ((rd_T46 l0_0 x6_33).f1) ((rd_T46 l0_0 x6_33).f2) ((rd_T46 l0_0 x6_33).f3) ((rd_T46 l0_0 x6_33).f4) ((rd_T46 l0_0 x6_33).f5) ((rd_T46 l0_0 x6_33).f6) ((rd_T46 l0_0 x6_33).f7) ((rd_T46 l0_0 x6_33).f8) ((rd_T46 l0_0 x6_33).f9) t209 _ A65.out).mono ?_
            rintro e w68 ⟨rfl, hb⟩
            refine ⟨_, rfl, ?_⟩; replace HO206 := ra_ HO206 hb; replace BK190 := ba_ BK190 hb; replace BK191 := ba_ BK191 hb; replace BK192 := ba_ BK192 hb; replace BK207 := ba_ BK207 hb; replace HB := hb_ HB hb; (try clear hb); (try clear hb2); (try clear hk); (try clear hi); refine hK.out _ _ ⟨(blk_cell BK190.out 0).trans rfl, (blk_cell BK191.out 0).trans rfl, (blk_cell BK191.out 1).trans rfl, (blk_cell BK191.out 2).trans rfl, (blk_cell BK191.out 3).trans rfl, (blk_cell BK191.out 4).trans rfl, (blk_cell BK191.out 5).trans rfl, (blk_cell BK191.out 6).trans rfl, (blk_cell BK191.out 7).trans rfl, (blk_cell BK191.out 8).trans rfl, (blk_cell BK191.out 9).trans rfl, (ce_ HB.out hw208_0), (ce_ HB.out hw208_1), (ce_ HB.out hw208_2), (ce_ HB.out hw208_3), (ce_ HB.out hw208_4), (ce_ HB.out hw208_5), (ce_ HB.out hw208_6), (ce_ HB.out hw208_7), (ce_ HB.out hw208_8), (ce_ HB.out hw208_9)⟩ (fun hHeld => ?_); clear hK K; refine nO 57 ?_
            refine pP 13 58 (mB 14 16383) HT_ ?_
            refine done_ (done_of HT_.out (by kernel_rfl)) ?_; try go_wp2
            go_meet
            case rel => exact ⟨_, (t209), fs_, H', ⟨by have := HJ2.out; have := HJ33.out; first | omega | exact Nat.le_refl _⟩, ⟨rq_⟩, ⟨pq_⟩, ⟨pq_⟩, ⟨pq_⟩, ⟨pq_⟩, ⟨bq_ HB⟩⟩
           ·rw [if_neg c64] at H; exact no_ H
         case rest =>
          clear HC47; try clear c1
          try clear p1
          try clear q1
          try clear hx1
          try clear c2
          try clear p2
          try clear q2
          try clear hx2
          try clear c3
          try clear c4
          try clear c5
          try clear q5
          try clear c6
          try clear p6
          try clear c8
          try clear c10
          try clear c11
          try clear c12
          try clear c15
          try clear c19
          try clear p19
          try clear q19
          try clear hx19
          try clear c20
          try clear p20
          try clear q20
          try clear hx20
          try clear c23
          try clear c24
          try clear c26
          try clear c27
          try clear c30
          try clear c31
          try clear c32
          try clear c35
          try clear c35b0
          try clear c36
          try clear c36b0
          try clear c38
          try clear c44
          try clear c44b0
          try clear c44b1
          try clear c45
          try clear c45b0
          try clear c45b1
          try clear c46
          try clear c50
          try clear c51
          try clear q53
          try clear c57
          try clear c58
          try clear c59
          try clear c61
          try clear c61b0
          try clear c61b1
          try clear c64
          try clear c64b0
          try clear hcz13_0
          try clear hcz16_0
          try clear hcz16_1
          try clear hcz16_2
          try clear hcz16_3
          try clear hcz16_4
          try clear hcz16_5
          try clear hcz16_6
          try clear hcz16_7
          try clear hcz16_8
          try clear hcz16_9
          try clear hcz18_0
          try clear hcz18_1
          try clear hcz18_2
          try clear hcz18_3
          try clear hcz18_4
          try clear hcz18_5
          try clear hcz18_6
          try clear hcz18_7
          try clear hcz18_8
          try clear hcz18_9
          try clear hcz21_0
          try clear hcz24_0
          try clear hcz24_1
          try clear hcz24_2
          try clear hcz24_3
          try clear hcz24_4
          try clear hcz24_5
          try clear hcz24_6
          try clear hcz24_7
          try clear hcz24_8
          try clear hcz24_9
          try clear hcz28_0
          try clear hcz33_0
          try clear hcz52_0
          try clear hcz60_0
          try clear hfz13_0
          try clear hfz16_0
          try clear hfz16_1
          try clear hfz16_2
          try clear hfz16_3
          try clear hfz16_4
          try clear hfz16_5
          try clear hfz16_6
          try clear hfz16_7
          try clear hfz16_8
          try clear hfz16_9
          try clear hfz18_0
          try clear hfz18_1
          try clear hfz18_2
          try clear hfz18_3
          try clear hfz18_4
          try clear hfz18_5
          try clear hfz18_6
          try clear hfz18_7
          try clear hfz18_8
          try clear hfz18_9
          try clear hfz21_0
          try clear hfz24_0
          try clear hfz24_1
          try clear hfz24_2
          try clear hfz24_3
          try clear hfz24_4
          try clear hfz24_5
          try clear hfz24_6
          try clear hfz24_7
          try clear hfz24_8
          try clear hfz24_9
          try clear hfz28_0
          try clear hfz33_0
          try clear hfz52_0
          try clear hfz60_0
          try clear hx195_0
          try clear hx195_1
          try clear hx195_2
          try clear hx195_3
          try clear hx195_4
          try clear hx195_5
          try clear hx195_6
          try clear hx195_7
          try clear hx195_8
          try clear hx195_9
          try clear hx208_0
          try clear hx208_1
          try clear hx208_2
          try clear hx208_3
          try clear hx208_4
          try clear hx208_5
          try clear hx208_6
          try clear hx208_7
          try clear hx208_8
          try clear hx208_9
          try clear p1
          try clear p19
          try clear p195
          try clear p2
          try clear p208
          try clear p6
          try clear q1
          try clear q19
          try clear q195
          try clear q208
          try clear q53
          obtain ⟨kq, x58_46, rfl, HA, HJ46, HO_208000, BK190, BK191, BK192, BK207, HB⟩ := hcut; cases kq with
          | zero => exact absurd HA.out (by simp [spec_AddPiece.j3])
          | succ kj46 =>
           have H := HA.out; clear HA; simp only [spec_AddPiece.j3] at H; have HC69 := Aside0.mk H; clear H
           go_upto_if 58 with (fail)
           go_cut [] (fun wc => ∃ (kq : Nat) (x208000_68 : List (S46)) (u208000 : Value), Aside0 (spec_AddPiece.j4 kq x6_33 l0_0 x208000_68 = some (r1, r2)) ∧ Aside0 (kq ≤ kj46) ∧ Aside0 (Kd.R k46 46 wc w.heap.size (fun k_ => k_ ≠ gb191) u208000 x208000_68) ∧ Aside0 (wc.heap[gb190]? = some (.cells #[(.slice A0_0 l0_0.length c0_0)] 29 (0, 0))) ∧ Aside0 (wc.heap[gb191]? = some (.cells #[.int .i64 a1_0, .int .i64 a1_1, .bool a1_2, .int .i64 a1_3, .int .i64 a1_4, .int .i64 a1_5, .int .i64 a1_6, .int .i64 a1_7, .int .i64 a1_8, .string a1_9] 46 (0, 0))) ∧ Aside0 (wc.heap[gb192]? = some (.cells #[(.slice none 0 0)] 29 (0, 0))) ∧ Aside0 (wc.heap[gb207]? = some (.cells #[u208000] 29 (0, 0))) ∧ Aside0 (Below w.heap.size w wc))
           case first =>
            have H := HC69.out; clear HC69; by_cases c70 : x58_46 = true
            ·subst c70; rw [if_pos rfl] at H; by_cases c71 : y204.length < 1599289640401
             ·rw [if_pos c71] at H; have LMc71 := Aside0.mk c71; clear c71; obtain ⟨y210, hy210⟩ : ∃ y_ : List (S46), y_ = (y204 ++ [(⟨a1_0, a1_1, a1_2, a1_3, a1_4, a1_5, a1_6, a1_7, a1_8, a1_9⟩ : S46)]) := ⟨_, rfl⟩
              rw [← hy210] at H
              (try rw [Option.bind_some] at H)
              have Ny210 := Aside0.mk hy210; clear hy210; have H' := Aside0.mk H; clear H; have hnb72 := NB207_190.out; have hnc72 := NB190_207.out; have hnb73 := NB207_191.out; have hnc73 := NB191_207.out; have hnb74 := NB207_192.out; have hnc74 := NB192_207.out; have hcz75_0 : wc.cell? ⟨gb207, 0, none⟩ = some (.slice Ao55 y204.length co55) := (blk_cell BK207.out 0).trans rfl; have hfz75_0 := blk_frozen BK207.out 0; have hnb76 := NB191_190.out; have hnc76 := NB190_191.out; have hnb77 := NB191_192.out; have hnc77 := NB192_191.out; obtain ⟨hcz78_0, hcz78_1, hcz78_2, hcz78_3, hcz78_4, hcz78_5, hcz78_6, hcz78_7, hcz78_8, hcz78_9, hfz78_0, hfz78_1, hfz78_2, hfz78_3, hfz78_4, hfz78_5, hfz78_6, hfz78_7, hfz78_8, hfz78_9⟩ := cf10 BK191.out; go_wp2_with (first | ((with_reducible refine gate_builtin (b := .append) (xs := #[.tmp 60, .tmp 62]) rfl ?_); at_builtin; refine Kd.R_append k46 (w0 := w) w.heap.size rfl (.tmp 60) (.tmp 62) 27 46 (.agg #[(.int .i64 0), (.int .i64 0), (.bool false), (.int .i64 0), (.int .i64 0), (.int .i64 0), (.int .i64 0), (.int .i64 0), (.int .i64 0), (.string ⟨#[]⟩)]) 88 rfl Try.underlying27 info46 rfl (by decide) (by omega) (.slice Ao55 y204.length co55) y204 (⟨a1_0, a1_1, a1_2, a1_3, a1_4, a1_5, a1_6, a1_7, a1_8, a1_9⟩ : S46) [.int .i64 a1_0, .int .i64 a1_1, .bool a1_2, .int .i64 a1_3, .int .i64 a1_4, .int .i64 a1_5, .int .i64 a1_6, .int .i64 a1_7, .int .i64 a1_8, .string a1_9] (fun k_ => k_ ≠ gb191) (fun _ => False) rfl rfl ?aP (fun _ hk => hk.elim) ?aF ?aO ?aB ?aS ?aL ?_; (case aP => exact k46_mkM _ _ _ (⟨a1_0, a1_1, a1_2, a1_3, a1_4, a1_5, a1_6, a1_7, a1_8, a1_9⟩ : S46)); (case aB => exact (bq_ HB)); (case aF => exact (fun k_ hk => Kd.freshB (g := gb191) (o := .cells #[.int .i64 a1_0, .int .i64 a1_1, .bool a1_2, .int .i64 a1_3, .int .i64 a1_4, .int .i64 a1_5, .int .i64 a1_6, .int .i64 a1_7, .int .i64 a1_8, .string a1_9] 46 (0, 0)) pq_ k_ hk)); (case aO => exact (by (with_reducible repeat (first | apply Kd.R_alloc | apply Kd.R_drewN | apply Kd.R_drew)); exact HO_208000.out)); (case aS => exact (below_size (bq_ HB))); (case aL => have := LMc71.out; omega); intro v211 w79 ho hb hg hat; rw [← Ny210.out] at ho; replace BK190 := bg_ BK190 hg (Kd.R_ne HO_208000.out BK190.out (by decide)); replace BK191 := bg_ BK191 hg (Kd.R_away HO_208000.out (fun _ hk => hk)); replace BK192 := bg_ BK192 hg (Kd.R_ne HO_208000.out BK192.out (by decide)); replace BK207 := bg_ BK207 hg (Kd.R_ne HO_208000.out BK207.out (by decide)); replace HB := Aside0.mk (hb); have HO212 := Aside0.mk (ho); clear HO_208000; clear ho hb hg hat; obtain ⟨Ao80, co80, eo80⟩ := Kd.R_slice HO212.out; subst eo80; have hcz81_0 : w79.cell? ⟨gb207, 0, none⟩ = some (.slice Ao55 y204.length co55) := (blk_cell BK207.out 0).trans rfl; have hfz81_0 := blk_frozen BK207.out 0)); go_meet
              case rel => exact ⟨_, (y210), (.slice Ao80 y210.length co80), H', ⟨by have := HJ2.out; have := HJ33.out; have := HJ46.out; first | omega | exact Nat.le_refl _⟩, ⟨by (with_reducible repeat (first | apply Kd.R_alloc | apply Kd.R_drewN | apply Kd.R_drew)); exact Kd.R_mono (Kd.R_far (p := ⟨gb207, 0, none⟩) (Kd.R_types HO212.out BK207.out (by decide)) (fun _ hk => hk.2) (.slice Ao80 y210.length co80)) (fun _ hk => hk.1)⟩, ⟨by (with_reducible repeat (first | refine blk_drewN ?_ _ | refine blk_drew ?_ | refine blk_alloc ?_ _)); refine blk_far ?_ NB190_207.out _; (with_reducible repeat (first | refine blk_drewN ?_ _ | refine blk_drew ?_ | refine blk_alloc ?_ _)); exact BK190.out⟩, ⟨by (with_reducible repeat (first | refine blk_drewN ?_ _ | refine blk_drew ?_ | refine blk_alloc ?_ _)); refine blk_far ?_ NB191_207.out _; (with_reducible repeat (first | refine blk_drewN ?_ _ | refine blk_drew ?_ | refine blk_alloc ?_ _)); exact BK191.out⟩, ⟨by (with_reducible repeat (first | refine blk_drewN ?_ _ | refine blk_drew ?_ | refine blk_alloc ?_ _)); refine blk_far ?_ NB192_207.out _; (with_reducible repeat (first | refine blk_drewN ?_ _ | refine blk_drew ?_ | refine blk_alloc ?_ _)); exact BK192.out⟩, ⟨by (with_reducible repeat (first | refine blk_drewN ?_ _ | refine blk_drew ?_ | refine blk_alloc ?_ _)); refine blk_put (cs := #[.slice Ao55 y204.length co55]) ?_ 0 _ rfl; (with_reducible repeat (first | refine blk_drewN ?_ _ | refine blk_drew ?_ | refine blk_alloc ?_ _)); exact BK207.out⟩, ⟨bq_ HB⟩⟩
             ·rw [if_neg c71] at H; exact no_ H
            ·replace c70 := Bool.eq_false_iff.mpr c70; subst c70; rw [if_neg (show ¬ (false = true) by decide)] at H; by_cases c82 : 0 ≤ x6_33
             ·rw [if_pos c82] at H; have c82b0 : decide (0 ≤ x6_33) = true := decide_eq_true c82; clear c82; (first | rw [c82b0] | (simp only [i64_w, i32_w]; rw [c82b0]) | skip); by_cases c83 : x6_33 < (l0_0.length : Int)
              ·rw [if_pos c83] at H; have c83b0 : decide (x6_33 < (l0_0.length : Int)) = true := decide_eq_true c83; clear c83; replace H := Option.bind_eq_some_iff.mp H; obtain ⟨t214, A840, H⟩ := H; (try dsimp only at H); have A84 := Aside0.mk A840; clear A840; by_cases c85 : t214 = true
               ·subst c85; rw [if_pos rfl] at H; by_cases c86 : a1_9.toList = ((rd_T46 l0_0 x6_33).f9).toList
                ·rw [if_pos c86] at H; have c86b0 : (a1_9.toList == ((rd_T46 l0_0 x6_33).f9).toList) = true := beq_iff_eq.mpr c86; have c86b1 : (a1_9.toList != ((rd_T46 l0_0 x6_33).f9).toList) = false := bne_eq_false_iff_eq.mpr c86; clear c86; have H' := Aside0.mk H; clear H; try go_wp2
                 replace HO_208000 := Aside0.mk (Kd.R_drew HO_208000.out); replace BK190 := Aside0.mk (blk_drew BK190.out); replace BK191 := Aside0.mk (blk_drew BK191.out); replace BK192 := Aside0.mk (blk_drew BK192.out); replace BK207 := Aside0.mk (blk_drew BK207.out); replace HB := Aside0.mk (below_drew1 HB.out); have p213 : 0 ≤ (x6_33 : Int) := od_; have q213 : x6_33 < (l0_0.length : Int) := od_; obtain ⟨ad213, e213, hx213_0, hx213_1, hx213_2, hx213_3, hx213_4, hx213_5, hx213_6, hx213_7, hx213_8, hx213_9⟩ := at_T46 HR0_0.out x6_33 p213 q213; have hw213_9 := hx213_9; have hw213_8 := hx213_8; have hw213_7 := hx213_7; have hw213_6 := hx213_6; have hw213_5 := hx213_5; have hw213_4 := hx213_4; have hw213_3 := hx213_3; have hw213_2 := hx213_2; have hw213_1 := hx213_1; have hw213_0 := hx213_0; cases e213; replace hx213_0 := ce_ HB.out hx213_0; replace hx213_1 := ce_ HB.out hx213_1; replace hx213_2 := ce_ HB.out hx213_2; replace hx213_3 := ce_ HB.out hx213_3; replace hx213_4 := ce_ HB.out hx213_4; replace hx213_5 := ce_ HB.out hx213_5; replace hx213_6 := ce_ HB.out hx213_6; replace hx213_7 := ce_ HB.out hx213_7; replace hx213_8 := ce_ HB.out hx213_8; replace hx213_9 := ce_ HB.out hx213_9; replace p213 := eq_true p213; replace q213 := eq_true q213; have p215 : 0 ≤ (x6_33 : Int) := od_; have q215 : x6_33 < (l0_0.length : Int) := od_; obtain ⟨ad215, e215, hx215_0, hx215_1, hx215_2, hx215_3, hx215_4, hx215_5, hx215_6, hx215_7, hx215_8, hx215_9⟩ := at_T46 HR0_0.out x6_33 p215 q215; have hw215_9 := hx215_9; have hw215_8 := hx215_8; have hw215_7 := hx215_7; have hw215_6 := hx215_6; have hw215_5 := hx215_5; have hw215_4 := hx215_4; have hw215_3 := hx215_3; have hw215_2 := hx215_2; have hw215_1 := hx215_1; have hw215_0 := hx215_0; obtain rfl : ad213 = ad215 := (by injection e215)
                 replace hx215_0 := ce_ HB.out hx215_0; replace hx215_1 := ce_ HB.out hx215_1; replace hx215_2 := ce_ HB.out hx215_2; replace hx215_3 := ce_ HB.out hx215_3; replace hx215_4 := ce_ HB.out hx215_4; replace hx215_5 := ce_ HB.out hx215_5; replace hx215_6 := ce_ HB.out hx215_6; replace hx215_7 := ce_ HB.out hx215_7; replace hx215_8 := ce_ HB.out hx215_8; replace hx215_9 := ce_ HB.out hx215_9; replace p215 := eq_true p215; replace q215 := eq_true q215; refine start_ (n := 19) (S := fun w' => w'.cell? ⟨gb191, 0, none⟩ = some (.int .i64 a1_0) ∧ w'.cell? ⟨gb191, 1, none⟩ = some (.int .i64 a1_1) ∧ w'.cell? ⟨gb191, 2, none⟩ = some (.bool a1_2) ∧ w'.cell? ⟨gb191, 3, none⟩ = some (.int .i64 a1_3) ∧ w'.cell? ⟨gb191, 4, none⟩ = some (.int .i64 a1_4) ∧ w'.cell? ⟨gb191, 5, none⟩ = some (.int .i64 a1_5) ∧ w'.cell? ⟨gb191, 6, none⟩ = some (.int .i64 a1_6) ∧ w'.cell? ⟨gb191, 7, none⟩ = some (.int .i64 a1_7) ∧ w'.cell? ⟨gb191, 8, none⟩ = some (.int .i64 a1_8) ∧ w'.cell? ⟨gb191, 9, none⟩ = some (.string a1_9) ∧ w'.cell? ⟨gb190, 0, none⟩ = some (.slice (some ad213) l0_0.length c0_0) ∧ w'.cell? (ad213.add ((x6_33).toNat * 10)) = some (.int .i64 ((rd_T46 l0_0 x6_33).f0)) ∧ w'.cell? ⟨(ad213.add ((x6_33).toNat * 10)).block, (ad213.add ((x6_33).toNat * 10)).off + 1, none⟩ = some (.int .i64 ((rd_T46 l0_0 x6_33).f1)) ∧ w'.cell? ⟨(ad213.add ((x6_33).toNat * 10)).block, (ad213.add ((x6_33).toNat * 10)).off + 2, none⟩ = some (.bool ((rd_T46 l0_0 x6_33).f2)) ∧ w'.cell? ⟨(ad213.add ((x6_33).toNat * 10)).block, (ad213.add ((x6_33).toNat * 10)).off + 3, none⟩ = some (.int .i64 ((rd_T46 l0_0 x6_33).f3)) ∧ w'.cell? ⟨(ad213.add ((x6_33).toNat * 10)).block, (ad213.add ((x6_33).toNat * 10)).off + 4, none⟩ = some (.int .i64 ((rd_T46 l0_0 x6_33).f4)) ∧ w'.cell? ⟨(ad213.add ((x6_33).toNat * 10)).block, (ad213.add ((x6_33).toNat * 10)).off + 5, none⟩ = some (.int .i64 ((rd_T46 l0_0 x6_33).f5)) ∧ w'.cell? ⟨(ad213.add ((x6_33).toNat * 10)).block, (ad213.add ((x6_33).toNat * 10)).off + 6, none⟩ = some (.int .i64 ((rd_T46 l0_0 x6_33).f6)) ∧ w'.cell? ⟨(ad213.add ((x6_33).toNat * 10)).block, (ad213.add ((x6_33).toNat * 10)).off + 7, none⟩ = some (.int .i64 ((rd_T46 l0_0 x6_33).f7)) ∧ w'.cell? ⟨(ad213.add ((x6_33).toNat * 10)).block, (ad213.add ((x6_33).toNat * 10)).off + 8, none⟩ = some (.int .i64 ((rd_T46 l0_0 x6_33).f8)) ∧ w'.cell? ⟨(ad213.add ((x6_33).toNat * 10)).block, (ad213.add ((x6_33).toNat * 10)).off + 9, none⟩ = some (.string ((rd_T46 l0_0 x6_33).f9)) ∧ w'.cell? (ad213.add ((x6_33).toNat * 10)) = some (.int .i64 ((rd_T46 l0_0 x6_33).f0)) ∧ w'.cell? ⟨(ad213.add ((x6_33).toNat * 10)).block, (ad213.add ((x6_33).toNat * 10)).off + 1, none⟩ = some (.int .i64 ((rd_T46 l0_0 x6_33).f1)) ∧ w'.cell? ⟨(ad213.add ((x6_33).toNat * 10)).block, (ad213.add ((x6_33).toNat * 10)).off + 2, none⟩ = some (.bool ((rd_T46 l0_0 x6_33).f2)) ∧ w'.cell? ⟨(ad213.add ((x6_33).toNat * 10)).block, (ad213.add ((x6_33).toNat * 10)).off + 3, none⟩ = some (.int .i64 ((rd_T46 l0_0 x6_33).f3)) ∧ w'.cell? ⟨(ad213.add ((x6_33).toNat * 10)).block, (ad213.add ((x6_33).toNat * 10)).off + 4, none⟩ = some (.int .i64 ((rd_T46 l0_0 x6_33).f4)) ∧ w'.cell? ⟨(ad213.add ((x6_33).toNat * 10)).block, (ad213.add ((x6_33).toNat * 10)).off + 5, none⟩ = some (.int .i64 ((rd_T46 l0_0 x6_33).f5)) ∧ w'.cell? ⟨(ad213.add ((x6_33).toNat * 10)).block, (ad213.add ((x6_33).toNat * 10)).off + 6, none⟩ = some (.int .i64 ((rd_T46 l0_0 x6_33).f6)) ∧ w'.cell? ⟨(ad213.add ((x6_33).toNat * 10)).block, (ad213.add ((x6_33).toNat * 10)).off + 7, none⟩ = some (.int .i64 ((rd_T46 l0_0 x6_33).f7)) ∧ w'.cell? ⟨(ad213.add ((x6_33).toNat * 10)).block, (ad213.add ((x6_33).toNat * 10)).off + 8, none⟩ = some (.int .i64 ((rd_T46 l0_0 x6_33).f8)) ∧ w'.cell? ⟨(ad213.add ((x6_33).toNat * 10)).block, (ad213.add ((x6_33).toNat * 10)).off + 9, none⟩ = some (.string ((rd_T46 l0_0 x6_33).f9))) (ds := []) #[ff,ff,ff,ff,ff,ff,ff,ff,ff,ff,ff,ff,ff,ff,ff,ff,ff,ff,ff] (by kernel_rfl) rfl rfl ⟨(blk_cell BK191.out 0).trans rfl, (blk_cell BK191.out 1).trans rfl, (blk_cell BK191.out 2).trans rfl, (blk_cell BK191.out 3).trans rfl, (blk_cell BK191.out 4).trans rfl, (blk_cell BK191.out 5).trans rfl, (blk_cell BK191.out 6).trans rfl, (blk_cell BK191.out 7).trans rfl, (blk_cell BK191.out 8).trans rfl, (blk_cell BK191.out 9).trans rfl, (blk_cell BK190.out 0).trans rfl, (ce_ HB.out hw213_0), (ce_ HB.out hw213_1), (ce_ HB.out hw213_2), (ce_ HB.out hw213_3), (ce_ HB.out hw213_4), (ce_ HB.out hw213_5), (ce_ HB.out hw213_6), (ce_ HB.out hw213_7), (ce_ HB.out hw213_8), (ce_ HB.out hw213_9), (ce_ HB.out hw215_0), (ce_ HB.out hw215_1), (ce_ HB.out hw215_2), (ce_ HB.out hw215_3), (ce_ HB.out hw215_4), (ce_ HB.out hw215_5), (ce_ HB.out hw215_6), (ce_ HB.out hw215_7), (ce_ HB.out hw215_8), (ce_ HB.out hw215_9)⟩ (fun hHeld => ?_); refine with_tabW spec_AddPiece.tab9 spec_AddPiece.bits9 (fun HT_ HW_ => ?_); generalize wc.drew = w87 at HO_208000 BK190 BK191 BK192 BK207 HB hx213_0 hx213_1 hx213_2 hx213_3 hx213_4 hx213_5 hx213_6 hx213_7 hx213_8 hx213_9 hx215_0 hx215_1 hx215_2 hx215_3 hx215_4 hx215_5 hx215_6 hx215_7 hx215_8 hx215_9 hHeld ⊢; refine pP 1 66 (mB 19 2) HT_ ?_
                 refine pP 3 68 (mB 19 10) HT_ ?_
                 refine tK 0 65 (mB 19 11) HT_ HW_ hHeld ?_
                 refine tK 2 67 (mB 19 15) HT_ HW_ hHeld ?_
                 refine pP 4 69 (mB 19 31) HT_ ?_
                 refine tK 5 70 (mB 19 63) HT_ HW_ hHeld ?_
                 refine oN 6 (some 71) (mB 19 127) HT_ (fun K hK => ?_); refine goes_ Try.func45 (by kernel_rfl) rfl #[.agg #[.int .i64 a1_0, .int .i64 a1_1, .bool a1_2, .int .i64 a1_3, .int .i64 a1_4, .int .i64 a1_5, .int .i64 a1_6, .int .i64 a1_7, .int .i64 a1_8, .string a1_9], .agg #[.int .i64 ((rd_T46 l0_0 x6_33).f0), .int .i64 ((rd_T46 l0_0 x6_33).f1), .bool ((rd_T46 l0_0 x6_33).f2), .int .i64 ((rd_T46 l0_0 x6_33).f3), .int .i64 ((rd_T46 l0_0 x6_33).f4), .int .i64 ((rd_T46 l0_0 x6_33).f5), .int .i64 ((rd_T46 l0_0 x6_33).f6), .int .i64 ((rd_T46 l0_0 x6_33).f7), .int .i64 ((rd_T46 l0_0 x6_33).f8), .string ((rd_T46 l0_0 x6_33).f9)]] (by rfl) rfl rfl ma_ ?_; with_reducible refine (spec_l4Same.calls a1_0 a1_1 a1_2 a1_3 a1_4 a1_5 a1_6 a1_7 a1_8 a1_9 ((rd_T46 l0_0 x6_33).f0) ((rd_T46 l0_0 x6_33).f1) ((rd_T46 l0_0 x6_33).f2) ((rd_T46 l0_0 x6_33).f3) ((rd_T46 l0_0 x6_33).f4) ((rd_T46 l0_0 x6_33).f5) ((rd_T46 l0_0 x6_33).f6) ((rd_T46 l0_0 x6_33).f7) ((rd_T46 l0_0 x6_33).f8) ((rd_T46 l0_0 x6_33).f9) true _ A84.out).mono ?_
                 rintro e w88 ⟨rfl, hb⟩
                 refine ⟨_, rfl, ?_⟩; replace HO_208000 := ra_ HO_208000 hb; replace BK190 := ba_ BK190 hb; replace BK191 := ba_ BK191 hb; replace BK192 := ba_ BK192 hb; replace BK207 := ba_ BK207 hb; replace HB := hb_ HB hb; (try clear hb); (try clear hb2); (try clear hk); (try clear hi); refine hK.out _ _ ⟨(blk_cell BK191.out 0).trans rfl, (blk_cell BK191.out 1).trans rfl, (blk_cell BK191.out 2).trans rfl, (blk_cell BK191.out 3).trans rfl, (blk_cell BK191.out 4).trans rfl, (blk_cell BK191.out 5).trans rfl, (blk_cell BK191.out 6).trans rfl, (blk_cell BK191.out 7).trans rfl, (blk_cell BK191.out 8).trans rfl, (blk_cell BK191.out 9).trans rfl, (blk_cell BK190.out 0).trans rfl, (ce_ HB.out hw213_0), (ce_ HB.out hw213_1), (ce_ HB.out hw213_2), (ce_ HB.out hw213_3), (ce_ HB.out hw213_4), (ce_ HB.out hw213_5), (ce_ HB.out hw213_6), (ce_ HB.out hw213_7), (ce_ HB.out hw213_8), (ce_ HB.out hw213_9), (ce_ HB.out hw215_0), (ce_ HB.out hw215_1), (ce_ HB.out hw215_2), (ce_ HB.out hw215_3), (ce_ HB.out hw215_4), (ce_ HB.out hw215_5), (ce_ HB.out hw215_6), (ce_ HB.out hw215_7), (ce_ HB.out hw215_8), (ce_ HB.out hw215_9)⟩ (fun hHeld => ?_); clear hK K; refine nO 71 ?_
                 refine pP 7 72 (mB 19 255) HT_ ?_
                 refine pP 8 73 (mB 19 511) HT_ ?_
                 refine pP 9 74 (mB 19 1023) HT_ ?_
                 refine pP 11 76 (mB 19 3071) HT_ ?_
                 refine pP 13 78 (mB 19 11263) HT_ ?_
                 refine tK 10 75 (mB 19 12287) HT_ HW_ hHeld ?_
                 refine tK 12 77 (mB 19 16383) HT_ HW_ hHeld ?_
                 refine pP 14 79 (mB 19 32767) HT_ ?_
                 refine pP 15 80 (mB 19 65535) HT_ ?_
                 refine tK 16 81 (mB 19 131071) HT_ HW_ hHeld ?_
                 refine pP 17 82 (mB 19 262143) HT_ ?_
                 refine pP 18 83 (mB 19 524287) HT_ ?_
                 refine done_ (done_of HT_.out (by kernel_rfl)) ?_; try go_wp2
                 go_meet
                 case rel => exact ⟨_, (y204), (.slice Ao55 y204.length co55), H', ⟨by have := HJ2.out; have := HJ33.out; have := HJ46.out; first | omega | exact Nat.le_refl _⟩, ⟨rq_⟩, ⟨pq_⟩, ⟨pq_⟩, ⟨pq_⟩, ⟨pq_⟩, ⟨bq_ HB⟩⟩
                ·rw [if_neg c86] at H; have c86b0 : (a1_9.toList == ((rd_T46 l0_0 x6_33).f9).toList) = false := beq_eq_false_iff_ne.mpr c86; have c86b1 : (a1_9.toList != ((rd_T46 l0_0 x6_33).f9).toList) = true := bne_iff_ne.mpr c86; simp only [Option.some.injEq, Prod.mk.injEq] at H; obtain ⟨rfl, rfl⟩ := H; try go_wp2
                 replace HO_208000 := Aside0.mk (Kd.R_drew HO_208000.out); replace BK190 := Aside0.mk (blk_drew BK190.out); replace BK191 := Aside0.mk (blk_drew BK191.out); replace BK192 := Aside0.mk (blk_drew BK192.out); replace BK207 := Aside0.mk (blk_drew BK207.out); replace HB := Aside0.mk (below_drew1 HB.out); have p213 : 0 ≤ (x6_33 : Int) := od_; have q213 : x6_33 < (l0_0.length : Int) := od_; obtain ⟨ad213, e213, hx213_0, hx213_1, hx213_2, hx213_3, hx213_4, hx213_5, hx213_6, hx213_7, hx213_8, hx213_9⟩ := at_T46 HR0_0.out x6_33 p213 q213; have hw213_9 := hx213_9; have hw213_8 := hx213_8; have hw213_7 := hx213_7; have hw213_6 := hx213_6; have hw213_5 := hx213_5; have hw213_4 := hx213_4; have hw213_3 := hx213_3; have hw213_2 := hx213_2; have hw213_1 := hx213_1; have hw213_0 := hx213_0; cases e213; replace hx213_0 := ce_ HB.out hx213_0; replace hx213_1 := ce_ HB.out hx213_1; replace hx213_2 := ce_ HB.out hx213_2; replace hx213_3 := ce_ HB.out hx213_3; replace hx213_4 := ce_ HB.out hx213_4; replace hx213_5 := ce_ HB.out hx213_5; replace hx213_6 := ce_ HB.out hx213_6; replace hx213_7 := ce_ HB.out hx213_7; replace hx213_8 := ce_ HB.out hx213_8; replace hx213_9 := ce_ HB.out hx213_9; replace p213 := eq_true p213; replace q213 := eq_true q213; have p215 : 0 ≤ (x6_33 : Int) := od_; have q215 : x6_33 < (l0_0.length : Int) := od_; obtain ⟨ad215, e215, hx215_0, hx215_1, hx215_2, hx215_3, hx215_4, hx215_5, hx215_6, hx215_7, hx215_8, hx215_9⟩ := at_T46 HR0_0.out x6_33 p215 q215; have hw215_9 := hx215_9; have hw215_8 := hx215_8; have hw215_7 := hx215_7; have hw215_6 := hx215_6; have hw215_5 := hx215_5; have hw215_4 := hx215_4; have hw215_3 := hx215_3; have hw215_2 := hx215_2; have hw215_1 := hx215_1; have hw215_0 := hx215_0; obtain rfl : ad213 = ad215 := (by injection e215)
                 replace hx215_0 := ce_ HB.out hx215_0; replace hx215_1 := ce_ HB.out hx215_1; replace hx215_2 := ce_ HB.out hx215_2; replace hx215_3 := ce_ HB.out hx215_3; replace hx215_4 := ce_ HB.out hx215_4; replace hx215_5 := ce_ HB.out hx215_5; replace hx215_6 := ce_ HB.out hx215_6; replace hx215_7 := ce_ HB.out hx215_7; replace hx215_8 := ce_ HB.out hx215_8; replace hx215_9 := ce_ HB.out hx215_9; replace p215 := eq_true p215; replace q215 := eq_true q215; refine start_ (n := 19) (S := fun w' => w'.cell? ⟨gb191, 0, none⟩ = some (.int .i64 a1_0) ∧ w'.cell? ⟨gb191, 1, none⟩ = some (.int .i64 a1_1) ∧ w'.cell? ⟨gb191, 2, none⟩ = some (.bool a1_2) ∧ w'.cell? ⟨gb191, 3, none⟩ = some (.int .i64 a1_3) ∧ w'.cell? ⟨gb191, 4, none⟩ = some (.int .i64 a1_4) ∧ w'.cell? ⟨gb191, 5, none⟩ = some (.int .i64 a1_5) ∧ w'.cell? ⟨gb191, 6, none⟩ = some (.int .i64 a1_6) ∧ w'.cell? ⟨gb191, 7, none⟩ = some (.int .i64 a1_7) ∧ w'.cell? ⟨gb191, 8, none⟩ = some (.int .i64 a1_8) ∧ w'.cell? ⟨gb191, 9, none⟩ = some (.string a1_9) ∧ w'.cell? ⟨gb190, 0, none⟩ = some (.slice (some ad213) l0_0.length c0_0) ∧ w'.cell? (ad213.add ((x6_33).toNat * 10)) = some (.int .i64 ((rd_T46 l0_0 x6_33).f0)) ∧ w'.cell? ⟨(ad213.add ((x6_33).toNat * 10)).block, (ad213.add ((x6_33).toNat * 10)).off + 1, none⟩ = some (.int .i64 ((rd_T46 l0_0 x6_33).f1)) ∧ w'.cell? ⟨(ad213.add ((x6_33).toNat * 10)).block, (ad213.add ((x6_33).toNat * 10)).off + 2, none⟩ = some (.bool ((rd_T46 l0_0 x6_33).f2)) ∧ w'.cell? ⟨(ad213.add ((x6_33).toNat * 10)).block, (ad213.add ((x6_33).toNat * 10)).off + 3, none⟩ = some (.int .i64 ((rd_T46 l0_0 x6_33).f3)) ∧ w'.cell? ⟨(ad213.add ((x6_33).toNat * 10)).block, (ad213.add ((x6_33).toNat * 10)).off + 4, none⟩ = some (.int .i64 ((rd_T46 l0_0 x6_33).f4)) ∧ w'.cell? ⟨(ad213.add ((x6_33).toNat * 10)).block, (ad213.add ((x6_33).toNat * 10)).off + 5, none⟩ = some (.int .i64 ((rd_T46 l0_0 x6_33).f5)) ∧ w'.cell? ⟨(ad213.add ((x6_33).toNat * 10)).block, (ad213.add ((x6_33).toNat * 10)).off + 6, none⟩ = some (.int .i64 ((rd_T46 l0_0 x6_33).f6)) ∧ w'.cell? ⟨(ad213.add ((x6_33).toNat * 10)).block, (ad213.add ((x6_33).toNat * 10)).off + 7, none⟩ = some (.int .i64 ((rd_T46 l0_0 x6_33).f7)) ∧ w'.cell? ⟨(ad213.add ((x6_33).toNat * 10)).block, (ad213.add ((x6_33).toNat * 10)).off + 8, none⟩ = some (.int .i64 ((rd_T46 l0_0 x6_33).f8)) ∧ w'.cell? ⟨(ad213.add ((x6_33).toNat * 10)).block, (ad213.add ((x6_33).toNat * 10)).off + 9, none⟩ = some (.string ((rd_T46 l0_0 x6_33).f9)) ∧ w'.cell? (ad213.add ((x6_33).toNat * 10)) = some (.int .i64 ((rd_T46 l0_0 x6_33).f0)) ∧ w'.cell? ⟨(ad213.add ((x6_33).toNat * 10)).block, (ad213.add ((x6_33).toNat * 10)).off + 1, none⟩ = some (.int .i64 ((rd_T46 l0_0 x6_33).f1)) ∧ w'.cell? ⟨(ad213.add ((x6_33).toNat * 10)).block, (ad213.add ((x6_33).toNat * 10)).off + 2, none⟩ = some (.bool ((rd_T46 l0_0 x6_33).f2)) ∧ w'.cell? ⟨(ad213.add ((x6_33).toNat * 10)).block, (ad213.add ((x6_33).toNat * 10)).off + 3, none⟩ = some (.int .i64 ((rd_T46 l0_0 x6_33).f3)) ∧ w'.cell? ⟨(ad213.add ((x6_33).toNat * 10)).block, (ad213.add ((x6_33).toNat * 10)).off + 4, none⟩ = some (.int .i64 ((rd_T46 l0_0 x6_33).f4)) ∧ w'.cell? ⟨(ad213.add ((x6_33).toNat * 10)).block, (ad213.add ((x6_33).toNat * 10)).off + 5, none⟩ = some (.int .i64 ((rd_T46 l0_0 x6_33).f5)) ∧ w'.cell? ⟨(ad213.add ((x6_33).toNat * 10)).block, (ad213.add ((x6_33).toNat * 10)).off + 6, none⟩ = some (.int .i64 ((rd_T46 l0_0 x6_33).f6)) ∧ w'.cell? ⟨(ad213.add ((x6_33).toNat * 10)).block, (ad213.add ((x6_33).toNat * 10)).off + 7, none⟩ = some (.int .i64 ((rd_T46 l0_0 x6_33).f7)) ∧ w'.cell? ⟨(ad213.add ((x6_33).toNat * 10)).block, (ad213.add ((x6_33).toNat * 10)).off + 8, none⟩ = some (.int .i64 ((rd_T46 l0_0 x6_33).f8)) ∧ w'.cell? ⟨(ad213.add ((x6_33).toNat * 10)).block, (ad213.add ((x6_33).toNat * 10)).off + 9, none⟩ = some (.string ((rd_T46 l0_0 x6_33).f9))) (ds := []) #[ff,ff,ff,ff,ff,ff,ff,ff,ff,ff,ff,ff,ff,ff,ff,ff,ff,ff,ff] (by kernel_rfl) rfl rfl ⟨(blk_cell BK191.out 0).trans rfl, (blk_cell BK191.out 1).trans rfl, (blk_cell BK191.out 2).trans rfl, (blk_cell BK191.out 3).trans rfl, (blk_cell BK191.out 4).trans rfl, (blk_cell BK191.out 5).trans rfl, (blk_cell BK191.out 6).trans rfl, (blk_cell BK191.out 7).trans rfl, (blk_cell BK191.out 8).trans rfl, (blk_cell BK191.out 9).trans rfl, (blk_cell BK190.out 0).trans rfl, (ce_ HB.out hw213_0), (ce_ HB.out hw213_1), (ce_ HB.out hw213_2), (ce_ HB.out hw213_3), (ce_ HB.out hw213_4), (ce_ HB.out hw213_5), (ce_ HB.out hw213_6), (ce_ HB.out hw213_7), (ce_ HB.out hw213_8), (ce_ HB.out hw213_9), (ce_ HB.out hw215_0), (ce_ HB.out hw215_1), (ce_ HB.out hw215_2), (ce_ HB.out hw215_3), (ce_ HB.out hw215_4), (ce_ HB.out hw215_5), (ce_ HB.out hw215_6), (ce_ HB.out hw215_7), (ce_ HB.out hw215_8), (ce_ HB.out hw215_9)⟩ (fun hHeld => ?_); refine with_tabW spec_AddPiece.tab9 spec_AddPiece.bits9 (fun HT_ HW_ => ?_); generalize wc.drew = w89 at HO_208000 BK190 BK191 BK192 BK207 HB hx213_0 hx213_1 hx213_2 hx213_3 hx213_4 hx213_5 hx213_6 hx213_7 hx213_8 hx213_9 hx215_0 hx215_1 hx215_2 hx215_3 hx215_4 hx215_5 hx215_6 hx215_7 hx215_8 hx215_9 hHeld ⊢; refine pP 1 66 (mB 19 2) HT_ ?_
                 refine pP 3 68 (mB 19 10) HT_ ?_
                 refine tK 0 65 (mB 19 11) HT_ HW_ hHeld ?_
                 refine tK 2 67 (mB 19 15) HT_ HW_ hHeld ?_
                 refine pP 4 69 (mB 19 31) HT_ ?_
                 refine tK 5 70 (mB 19 63) HT_ HW_ hHeld ?_
                 refine oN 6 (some 71) (mB 19 127) HT_ (fun K hK => ?_); refine goes_ Try.func45 (by kernel_rfl) rfl #[.agg #[.int .i64 a1_0, .int .i64 a1_1, .bool a1_2, .int .i64 a1_3, .int .i64 a1_4, .int .i64 a1_5, .int .i64 a1_6, .int .i64 a1_7, .int .i64 a1_8, .string a1_9], .agg #[.int .i64 ((rd_T46 l0_0 x6_33).f0), .int .i64 ((rd_T46 l0_0 x6_33).f1), .bool ((rd_T46 l0_0 x6_33).f2), .int .i64 ((rd_T46 l0_0 x6_33).f3), .int .i64 ((rd_T46 l0_0 x6_33).f4), .int .i64 ((rd_T46 l0_0 x6_33).f5), .int .i64 ((rd_T46 l0_0 x6_33).f6), .int .i64 ((rd_T46 l0_0 x6_33).f7), .int .i64 ((rd_T46 l0_0 x6_33).f8), .string ((rd_T46 l0_0 x6_33).f9)]] (by rfl) rfl rfl ma_ ?_; with_reducible refine (spec_l4Same.calls a1_0 a1_1 a1_2 a1_3 a1_4 a1_5 a1_6 a1_7 a1_8 a1_9 ((rd_T46 l0_0 x6_33).f0) ((rd_T46 l0_0 x6_33).f1) ((rd_T46 l0_0 x6_33).f2) ((rd_T46 l0_0 x6_33).f3) ((rd_T46 l0_0 x6_33).f4) ((rd_T46 l0_0 x6_33).f5) ((rd_T46 l0_0 x6_33).f6) ((rd_T46 l0_0 x6_33).f7) ((rd_T46 l0_0 x6_33).f8) ((rd_T46 l0_0 x6_33).f9) true _ A84.out).mono ?_
                 rintro e w90 ⟨rfl, hb⟩
                 refine ⟨_, rfl, ?_⟩; replace HO_208000 := ra_ HO_208000 hb; replace BK190 := ba_ BK190 hb; replace BK191 := ba_ BK191 hb; replace BK192 := ba_ BK192 hb; replace BK207 := ba_ BK207 hb; replace HB := hb_ HB hb; (try clear hb); (try clear hb2); (try clear hk); (try clear hi); refine hK.out _ _ ⟨(blk_cell BK191.out 0).trans rfl, (blk_cell BK191.out 1).trans rfl, (blk_cell BK191.out 2).trans rfl, (blk_cell BK191.out 3).trans rfl, (blk_cell BK191.out 4).trans rfl, (blk_cell BK191.out 5).trans rfl, (blk_cell BK191.out 6).trans rfl, (blk_cell BK191.out 7).trans rfl, (blk_cell BK191.out 8).trans rfl, (blk_cell BK191.out 9).trans rfl, (blk_cell BK190.out 0).trans rfl, (ce_ HB.out hw213_0), (ce_ HB.out hw213_1), (ce_ HB.out hw213_2), (ce_ HB.out hw213_3), (ce_ HB.out hw213_4), (ce_ HB.out hw213_5), (ce_ HB.out hw213_6), (ce_ HB.out hw213_7), (ce_ HB.out hw213_8), (ce_ HB.out hw213_9), (ce_ HB.out hw215_0), (ce_ HB.out hw215_1), (ce_ HB.out hw215_2), (ce_ HB.out hw215_3), (ce_ HB.out hw215_4), (ce_ HB.out hw215_5), (ce_ HB.out hw215_6), (ce_ HB.out hw215_7), (ce_ HB.out hw215_8), (ce_ HB.out hw215_9)⟩ (fun hHeld => ?_); clear hK K; refine nO 71 ?_
                 refine pP 7 72 (mB 19 255) HT_ ?_
                 refine pP 8 73 (mB 19 511) HT_ ?_
                 refine pP 9 74 (mB 19 1023) HT_ ?_
                 refine pP 11 76 (mB 19 3071) HT_ ?_
                 refine pP 13 78 (mB 19 11263) HT_ ?_
                 refine tK 10 75 (mB 19 12287) HT_ HW_ hHeld ?_
                 refine tK 12 77 (mB 19 16383) HT_ HW_ hHeld ?_
                 refine pP 14 79 (mB 19 32767) HT_ ?_
                 refine pP 15 80 (mB 19 65535) HT_ ?_
                 refine tK 16 81 (mB 19 131071) HT_ HW_ hHeld ?_
                 refine pP 17 82 (mB 19 262143) HT_ ?_
                 refine pP 18 83 (mB 19 524287) HT_ ?_
                 refine done_ (done_of HT_.out (by kernel_rfl)) ?_; have hnb91 := NB192_190.out; have hnc91 := NB190_192.out; have hnb92 := NB192_191.out; have hnc92 := NB191_192.out; have hnb93 := NB192_207.out; have hnc93 := NB207_192.out; have hcz94_0 : w90.cell? ⟨gb192, 0, none⟩ = some (.slice none 0 0) := (blk_cell BK192.out 0).trans rfl; have hfz94_0 := blk_frozen BK192.out 0; try go_wp2
                 refine bodyPost_ret (results_ct rfl _ _ gb192 29 #[.slice none 0 0] (0, 0) _ rfl (by (with_reducible repeat (first | refine blk_drewN ?_ _ | refine blk_drew ?_ | refine blk_alloc ?_ _)); refine blk_put (cs := #[.slice none 0 0]) ?_ 0 _ rfl; (with_reducible repeat (first | refine blk_drewN ?_ _ | refine blk_drew ?_ | refine blk_alloc ?_ _)); exact BK192.out) Try.underlying29 rfl (by kernel_rfl)) rfl ?_; exact ⟨_, er_, by first | exact Kd.R_nil _ _ _ _ _ | exact Kd.N_nil _ _ _ _ _ | exact Kd.V_nil _ _ _ _ _ | exact Kd.Q_nil _ _ _ _ _ | exact Kd.S_nil _ _ _ _ _, bq_ HB⟩
               ·replace c85 := Bool.eq_false_iff.mpr c85; subst c85; rw [if_neg (show ¬ (false = true) by decide)] at H; simp only [Option.some.injEq, Prod.mk.injEq] at H; obtain ⟨rfl, rfl⟩ := H; try go_wp2
                replace HO_208000 := Aside0.mk (Kd.R_drew HO_208000.out); replace BK190 := Aside0.mk (blk_drew BK190.out); replace BK191 := Aside0.mk (blk_drew BK191.out); replace BK192 := Aside0.mk (blk_drew BK192.out); replace BK207 := Aside0.mk (blk_drew BK207.out); replace HB := Aside0.mk (below_drew1 HB.out); have p213 : 0 ≤ (x6_33 : Int) := od_; have q213 : x6_33 < (l0_0.length : Int) := od_; obtain ⟨ad213, e213, hx213_0, hx213_1, hx213_2, hx213_3, hx213_4, hx213_5, hx213_6, hx213_7, hx213_8, hx213_9⟩ := at_T46 HR0_0.out x6_33 p213 q213; have hw213_9 := hx213_9; have hw213_8 := hx213_8; have hw213_7 := hx213_7; have hw213_6 := hx213_6; have hw213_5 := hx213_5; have hw213_4 := hx213_4; have hw213_3 := hx213_3; have hw213_2 := hx213_2; have hw213_1 := hx213_1; have hw213_0 := hx213_0; cases e213; replace hx213_0 := ce_ HB.out hx213_0; replace hx213_1 := ce_ HB.out hx213_1; replace hx213_2 := ce_ HB.out hx213_2; replace hx213_3 := ce_ HB.out hx213_3; replace hx213_4 := ce_ HB.out hx213_4; replace hx213_5 := ce_ HB.out hx213_5; replace hx213_6 := ce_ HB.out hx213_6; replace hx213_7 := ce_ HB.out hx213_7; replace hx213_8 := ce_ HB.out hx213_8; replace hx213_9 := ce_ HB.out hx213_9; replace p213 := eq_true p213; replace q213 := eq_true q213; refine start_ (n := 19) (S := fun w' => w'.cell? ⟨gb191, 0, none⟩ = some (.int .i64 a1_0) ∧ w'.cell? ⟨gb191, 1, none⟩ = some (.int .i64 a1_1) ∧ w'.cell? ⟨gb191, 2, none⟩ = some (.bool a1_2) ∧ w'.cell? ⟨gb191, 3, none⟩ = some (.int .i64 a1_3) ∧ w'.cell? ⟨gb191, 4, none⟩ = some (.int .i64 a1_4) ∧ w'.cell? ⟨gb191, 5, none⟩ = some (.int .i64 a1_5) ∧ w'.cell? ⟨gb191, 6, none⟩ = some (.int .i64 a1_6) ∧ w'.cell? ⟨gb191, 7, none⟩ = some (.int .i64 a1_7) ∧ w'.cell? ⟨gb191, 8, none⟩ = some (.int .i64 a1_8) ∧ w'.cell? ⟨gb191, 9, none⟩ = some (.string a1_9) ∧ w'.cell? ⟨gb190, 0, none⟩ = some (.slice (some ad213) l0_0.length c0_0) ∧ w'.cell? (ad213.add ((x6_33).toNat * 10)) = some (.int .i64 ((rd_T46 l0_0 x6_33).f0)) ∧ w'.cell? ⟨(ad213.add ((x6_33).toNat * 10)).block, (ad213.add ((x6_33).toNat * 10)).off + 1, none⟩ = some (.int .i64 ((rd_T46 l0_0 x6_33).f1)) ∧ w'.cell? ⟨(ad213.add ((x6_33).toNat * 10)).block, (ad213.add ((x6_33).toNat * 10)).off + 2, none⟩ = some (.bool ((rd_T46 l0_0 x6_33).f2)) ∧ w'.cell? ⟨(ad213.add ((x6_33).toNat * 10)).block, (ad213.add ((x6_33).toNat * 10)).off + 3, none⟩ = some (.int .i64 ((rd_T46 l0_0 x6_33).f3)) ∧ w'.cell? ⟨(ad213.add ((x6_33).toNat * 10)).block, (ad213.add ((x6_33).toNat * 10)).off + 4, none⟩ = some (.int .i64 ((rd_T46 l0_0 x6_33).f4)) ∧ w'.cell? ⟨(ad213.add ((x6_33).toNat * 10)).block, (ad213.add ((x6_33).toNat * 10)).off + 5, none⟩ = some (.int .i64 ((rd_T46 l0_0 x6_33).f5)) ∧ w'.cell? ⟨(ad213.add ((x6_33).toNat * 10)).block, (ad213.add ((x6_33).toNat * 10)).off + 6, none⟩ = some (.int .i64 ((rd_T46 l0_0 x6_33).f6)) ∧ w'.cell? ⟨(ad213.add ((x6_33).toNat * 10)).block, (ad213.add ((x6_33).toNat * 10)).off + 7, none⟩ = some (.int .i64 ((rd_T46 l0_0 x6_33).f7)) ∧ w'.cell? ⟨(ad213.add ((x6_33).toNat * 10)).block, (ad213.add ((x6_33).toNat * 10)).off + 8, none⟩ = some (.int .i64 ((rd_T46 l0_0 x6_33).f8)) ∧ w'.cell? ⟨(ad213.add ((x6_33).toNat * 10)).block, (ad213.add ((x6_33).toNat * 10)).off + 9, none⟩ = some (.string ((rd_T46 l0_0 x6_33).f9))) (ds := []) #[ff,ff,ff,ff,ff,ff,ff,ff,ff,ff,ff,ff,ff,ff,ff,ff,ff,ff,ff] (by kernel_rfl) rfl rfl ⟨(blk_cell BK191.out 0).trans rfl, (blk_cell BK191.out 1).trans rfl, (blk_cell BK191.out 2).trans rfl, (blk_cell BK191.out 3).trans rfl, (blk_cell BK191.out 4).trans rfl, (blk_cell BK191.out 5).trans rfl, (blk_cell BK191.out 6).trans rfl, (blk_cell BK191.out 7).trans rfl, (blk_cell BK191.out 8).trans rfl, (blk_cell BK191.out 9).trans rfl, (blk_cell BK190.out 0).trans rfl, (ce_ HB.out hw213_0), (ce_ HB.out hw213_1), (ce_ HB.out hw213_2), (ce_ HB.out hw213_3), (ce_ HB.out hw213_4), (ce_ HB.out hw213_5), (ce_ HB.out hw213_6), (ce_ HB.out hw213_7), (ce_ HB.out hw213_8), (ce_ HB.out hw213_9)⟩ (fun hHeld => ?_); refine with_tabW spec_AddPiece.tab9 spec_AddPiece.bits9 (fun HT_ HW_ => ?_); generalize wc.drew = w95 at HO_208000 BK190 BK191 BK192 BK207 HB hx213_0 hx213_1 hx213_2 hx213_3 hx213_4 hx213_5 hx213_6 hx213_7 hx213_8 hx213_9 hHeld ⊢; refine pP 1 66 (mB 19 2) HT_ ?_
                refine pP 3 68 (mB 19 10) HT_ ?_
                refine tK 0 65 (mB 19 11) HT_ HW_ hHeld ?_
                refine tK 2 67 (mB 19 15) HT_ HW_ hHeld ?_
                refine pP 4 69 (mB 19 31) HT_ ?_
                refine tK 5 70 (mB 19 63) HT_ HW_ hHeld ?_
                refine oN 6 (some 71) (mB 19 127) HT_ (fun K hK => ?_); refine goes_ Try.func45 (by kernel_rfl) rfl #[.agg #[.int .i64 a1_0, .int .i64 a1_1, .bool a1_2, .int .i64 a1_3, .int .i64 a1_4, .int .i64 a1_5, .int .i64 a1_6, .int .i64 a1_7, .int .i64 a1_8, .string a1_9], .agg #[.int .i64 ((rd_T46 l0_0 x6_33).f0), .int .i64 ((rd_T46 l0_0 x6_33).f1), .bool ((rd_T46 l0_0 x6_33).f2), .int .i64 ((rd_T46 l0_0 x6_33).f3), .int .i64 ((rd_T46 l0_0 x6_33).f4), .int .i64 ((rd_T46 l0_0 x6_33).f5), .int .i64 ((rd_T46 l0_0 x6_33).f6), .int .i64 ((rd_T46 l0_0 x6_33).f7), .int .i64 ((rd_T46 l0_0 x6_33).f8), .string ((rd_T46 l0_0 x6_33).f9)]] (by rfl) rfl rfl ma_ ?_; with_reducible refine (spec_l4Same.calls a1_0 a1_1 a1_2 a1_3 a1_4 a1_5 a1_6 a1_7 a1_8 a1_9 ((rd_T46 l0_0 x6_33).f0) ((rd_T46 l0_0 x6_33).f1) ((rd_T46 l0_0 x6_33).f2) ((rd_T46 l0_0 x6_33).f3) ((rd_T46 l0_0 x6_33).f4) ((rd_T46 l0_0 x6_33).f5) ((rd_T46 l0_0 x6_33).f6) ((rd_T46 l0_0 x6_33).f7) ((rd_T46 l0_0 x6_33).f8) ((rd_T46 l0_0 x6_33).f9) false _ A84.out).mono ?_
                rintro e w96 ⟨rfl, hb⟩
                refine ⟨_, rfl, ?_⟩; replace HO_208000 := ra_ HO_208000 hb; replace BK190 := ba_ BK190 hb; replace BK191 := ba_ BK191 hb; replace BK192 := ba_ BK192 hb; replace BK207 := ba_ BK207 hb; replace HB := hb_ HB hb; (try clear hb); (try clear hb2); (try clear hk); (try clear hi); refine hK.out _ _ ⟨(blk_cell BK191.out 0).trans rfl, (blk_cell BK191.out 1).trans rfl, (blk_cell BK191.out 2).trans rfl, (blk_cell BK191.out 3).trans rfl, (blk_cell BK191.out 4).trans rfl, (blk_cell BK191.out 5).trans rfl, (blk_cell BK191.out 6).trans rfl, (blk_cell BK191.out 7).trans rfl, (blk_cell BK191.out 8).trans rfl, (blk_cell BK191.out 9).trans rfl, (blk_cell BK190.out 0).trans rfl, (ce_ HB.out hw213_0), (ce_ HB.out hw213_1), (ce_ HB.out hw213_2), (ce_ HB.out hw213_3), (ce_ HB.out hw213_4), (ce_ HB.out hw213_5), (ce_ HB.out hw213_6), (ce_ HB.out hw213_7), (ce_ HB.out hw213_8), (ce_ HB.out hw213_9)⟩ (fun hHeld => ?_); clear hK K; refine nO 71 ?_
                refine pP 7 72 (mB 19 255) HT_ ?_
                refine pP 8 73 (mB 19 511) HT_ ?_
                refine pQ 9 74 (mB 19 1023) HT_ ?_
                refine pQ 10 75 (mB 19 2047) HT_ ?_
                refine pQ 11 76 (mB 19 4095) HT_ ?_
                refine pQ 12 77 (mB 19 8191) HT_ ?_
                refine pQ 13 78 (mB 19 16383) HT_ ?_
                refine pQ 14 79 (mB 19 32767) HT_ ?_
                refine pQ 15 80 (mB 19 65535) HT_ ?_
                refine pQ 16 81 (mB 19 131071) HT_ ?_
                refine pQ 17 82 (mB 19 262143) HT_ ?_
                refine pP 18 83 (mB 19 524287) HT_ ?_
                refine done_ (done_of HT_.out (by kernel_rfl)) ?_; have hnb97 := NB192_190.out; have hnc97 := NB190_192.out; have hnb98 := NB192_191.out; have hnc98 := NB191_192.out; have hnb99 := NB192_207.out; have hnc99 := NB207_192.out; have hcz100_0 : w96.cell? ⟨gb192, 0, none⟩ = some (.slice none 0 0) := (blk_cell BK192.out 0).trans rfl; have hfz100_0 := blk_frozen BK192.out 0; try go_wp2
                refine bodyPost_ret (results_ct rfl _ _ gb192 29 #[.slice none 0 0] (0, 0) _ rfl (by (with_reducible repeat (first | refine blk_drewN ?_ _ | refine blk_drew ?_ | refine blk_alloc ?_ _)); refine blk_put (cs := #[.slice none 0 0]) ?_ 0 _ rfl; (with_reducible repeat (first | refine blk_drewN ?_ _ | refine blk_drew ?_ | refine blk_alloc ?_ _)); exact BK192.out) Try.underlying29 rfl (by kernel_rfl)) rfl ?_; exact ⟨_, er_, by first | exact Kd.R_nil _ _ _ _ _ | exact Kd.N_nil _ _ _ _ _ | exact Kd.V_nil _ _ _ _ _ | exact Kd.Q_nil _ _ _ _ _ | exact Kd.S_nil _ _ _ _ _, bq_ HB⟩
              ·rw [if_neg c83] at H; exact no_ H
             ·rw [if_neg c82] at H; exact no_ H
           case rest =>
            clear HC69; try clear p2
            try clear q2
            try clear hx2
            try clear c4
            try clear c8
            try clear c9
            try clear p21
            try clear q21
            try clear hx21
            try clear c45
            try clear c82
            try clear c83
            try clear c85
            try clear c86
            try clear c86b0
            try clear c86b1
            try clear c91
            try clear c92
            try clear c93
            try clear c97
            try clear c98
            try clear c99
            try clear hcz100_0
            try clear hcz94_0
            try clear hfz100_0
            try clear hfz94_0
            try clear hx213_0
            try clear hx213_1
            try clear hx213_2
            try clear hx213_3
            try clear hx213_4
            try clear hx213_5
            try clear hx213_6
            try clear hx213_7
            try clear hx213_8
            try clear hx213_9
            try clear hx215_0
            try clear hx215_1
            try clear hx215_2
            try clear hx215_3
            try clear hx215_4
            try clear hx215_5
            try clear hx215_6
            try clear hx215_7
            try clear hx215_8
            try clear hx215_9
            try clear p213
            try clear p215
            try clear q213
            try clear q215
            obtain ⟨kq, x208000_68, u208000, HA, HJ68, HO_208000, BK190, BK191, BK192, BK207, HB⟩ := hcut; cases kq with
            | zero => exact absurd HA.out (by simp [spec_AddPiece.j4])
            | succ kj68 =>
             have H := HA.out; clear HA; simp only [spec_AddPiece.j4] at H; by_cases c101 : 0 ≤ x6_33
             ·rw [if_pos c101] at H; have c101b0 := eq_true c101; have c101b1 : decide (0 ≤ x6_33) = true := decide_eq_true c101; clear c101; by_cases c102 : x6_33 ≤ (l0_0.length : Int)
              ·rw [if_pos c102] at H; have c102b0 := eq_true c102; have c102b1 : decide (x6_33 ≤ (l0_0.length : Int)) = true := decide_eq_true c102; clear c102; obtain ⟨y216, hy216⟩ : ∃ y_ : List (S46), y_ = (l0_0.drop (x6_33 : Int).toNat) := ⟨_, rfl⟩
               rw [← hy216] at H
               (try rw [Option.bind_some] at H)
               have Ny216 := Aside0.mk hy216; clear hy216; by_cases c103 : x208000_68.length + y216.length < 1599289640401
               ·rw [if_pos c103] at H; have LMc103 := Aside0.mk c103; clear c103; obtain ⟨y220, hy220⟩ : ∃ y_ : List (S46), y_ = (x208000_68 ++ y216) := ⟨_, rfl⟩
                rw [← hy220] at H
                (try rw [Option.bind_some] at H)
                have Ny220 := Aside0.mk hy220; clear hy220; replace H := Option.bind_eq_some_iff.mp H; obtain ⟨t223, A1040, H⟩ := H; (try dsimp only at H); have A104 := Aside0.mk A1040; clear A1040; by_cases c105 : t223 = true
                ·subst c105; rw [if_pos rfl] at H; simp only [Option.some.injEq, Prod.mk.injEq] at H; obtain ⟨rfl, rfl⟩ := H; try go_wp2
                 replace HO_208000 := Aside0.mk (Kd.R_drew HO_208000.out); replace BK190 := Aside0.mk (blk_drew BK190.out); replace BK191 := Aside0.mk (blk_drew BK191.out); replace BK192 := Aside0.mk (blk_drew BK192.out); replace BK207 := Aside0.mk (blk_drew BK207.out); replace HB := Aside0.mk (below_drew1 HB.out); have q107 : (x6_33 : Int) ≤ ((l0_0.length : Int) : Int) := od_; obtain ⟨i0107, hi0107, _, hsz107, _⟩ := info_parts info46; have hroom107 : l0_0.length ≤ c0_0 := HC0_0.out; have hC107 : Kd.C k46 _ A0_0 l0_0.length l0_0 := HR0_0.out; have q0107 : (0 : Int) ≤ (x6_33 : Int) := od_; have hcut107 := cut_from (P := Try.prog) 27 46 .i64 Try.underlying27 hi0107 10 hsz107 A0_0 l0_0.length c0_0 x6_33 q0107 q107; have hr107 := Kd.C_drop (m := (x6_33 : Int).toNat) (c := c0_0) hC107 (by omega) hroom107; obtain ⟨A107, hA107⟩ : ∃ A1, A1 = (if c0_0 = (x6_33 : Int).toNat then A0_0 else (A0_0 : Option Addr).map (·.add ((x6_33 : Int).toNat * 10))) := ⟨_, rfl⟩
                 obtain ⟨c107, hc107⟩ : ∃ c1, c1 = c0_0 - (x6_33 : Int).toNat := ⟨_, rfl⟩
                 have hy107 : y216.length = l0_0.length - (x6_33 : Int).toNat := (by rw [Ny216.out, List.length_drop] <;> omega)
                 rw [show (l0_0).drop (x6_33 : Int).toNat = y216 from Ny216.out.symm] at hr107; replace hr107 : Kd.C k46 _ A107 y216.length y216 := (by rw [hA107]; exact hr107)
                 rw [← hy107, ← hA107, ← hc107] at hcut107; have HR219 := Aside0.mk hr107; have HC219 := Aside0.mk (show y216.length ≤ c107 from by rw [hy107, hc107]; exact Nat.sub_le_sub_right hroom107 _); clear hr107 hC107 hroom107 hi0107 hsz107 hc107; have KY107 := Aside0.mk hy107; have KA107 := Aside0.mk hA107; clear hy107 hA107; replace q107 := eq_true q107; refine start_ (n := 9) (S := fun w' => w'.cell? ⟨gb207, 0, none⟩ = some (u208000) ∧ w'.cell? ⟨gb190, 0, none⟩ = some (.slice A0_0 l0_0.length c0_0)) (ds := [8]) #[ff,ff,ff,ff,ff,ff,ff,ff,ff] (by kernel_rfl) rfl rfl ⟨(blk_cell BK207.out 0).trans rfl, (blk_cell BK190.out 0).trans rfl⟩ (fun hHeld => ?_); refine with_tabW spec_AddPiece.tab11 spec_AddPiece.bits11 (fun HT_ HW_ => ?_); generalize wc.drew = w106 at HO_208000 BK190 BK191 BK192 BK207 HB HR219 hHeld ⊢; refine pP 0 85 (mB 9 1) HT_ ?_
                 refine pP 2 87 (mB 9 5) HT_ ?_
                 refine pP 4 89 (mB 9 21) HT_ ?_
                 refine tK 1 86 (mB 9 23) HT_ HW_ hHeld ?_
                 refine tK 3 88 (mB 9 31) HT_ HW_ hHeld ?_
                 refine pP 5 90 (mB 9 63) HT_ ?_
                 refine oN 6 (some 91) (mB 9 127) HT_ (fun K hK => ?_); refine Kd.R_append_rows_step k46 (w0 := w) w.heap.size (by rfl) (.tmp 86) (.tmp 90) 27 46 (.agg #[(.int .i64 0), (.int .i64 0), (.bool false), (.int .i64 0), (.int .i64 0), (.int .i64 0), (.int .i64 0), (.int .i64 0), (.int .i64 0), (.string ⟨#[]⟩)]) 88 rfl Try.underlying27 info46 rfl (by decide) (by omega) u208000 x208000_68 y216 _ _ _ (fun k_ => k_ ≠ gb191) (fun _ => False) rfl rfl ?aO ?aR (fun _ _ h => h) (fun _ h => h.elim) ?aF ?aB ?aS ?aL ?_
                 (case aR => repeat (first | exact (Kd.C_below HR219.out HB.out) | with_reducible first | refine Kd.C_alloc ?_ _ | refine Kd.C_drewN ?_ _ | refine Kd.C_drew ?_))
                 (case aB => exact (bq_ HB))
                 (case aF => exact (fun k_ hk => Kd.freshB (g := gb191) (o := .cells #[.int .i64 a1_0, .int .i64 a1_1, .bool a1_2, .int .i64 a1_3, .int .i64 a1_4, .int .i64 a1_5, .int .i64 a1_6, .int .i64 a1_7, .int .i64 a1_8, .string a1_9] 46 (0, 0)) pq_ k_ hk))
                 (case aO => exact (by (with_reducible repeat (first | apply Kd.R_alloc | apply Kd.R_drewN | apply Kd.R_drew)); exact HO_208000.out))
                 (case aS => exact (below_size (bq_ HB)))
                 (case aL => have := LMc103.out; omega)
                 intro v221 w108 ho hb hg hat; rw [← Ny220.out] at ho; replace BK190 := bg_ BK190 hg (Kd.R_ne HO_208000.out BK190.out (by decide)); replace BK191 := bg_ BK191 hg (Kd.R_away HO_208000.out (fun _ hk => hk)); replace BK192 := bg_ BK192 hg (Kd.R_ne HO_208000.out BK192.out (by decide)); replace BK207 := bg_ BK207 hg (Kd.R_ne HO_208000.out BK207.out (by decide)); replace HB := Aside0.mk (hb); have HO222 := Aside0.mk (ho); clear HO_208000; clear ho hb hg hat; obtain ⟨Ao109, co109, eo109⟩ := Kd.R_slice HO222.out; (first | subst eo109 | (injection eo109 with f1_ f2_ f3_; have f4_ := f1_.symm; have f5_ := f3_.symm; clear f1_ f2_ f3_; subst f4_; subst f5_)); refine hK.out _ _ ⟨(blk_cell BK207.out 0).trans rfl, (blk_cell BK190.out 0).trans rfl⟩ (fun hHeld => ?_); clear hK K; refine nO 91 ?_
                 refine pP 7 92 (mB 9 255) HT_ ?_
                 refine last_ (i := 8) (N := none) #[tt,tt,tt,tt,tt,tt,tt,tt,tt] rfl rfl (one_of HT_.out (by kernel_rfl)) (by decide) (fun K hK => ?_); have hs110 : w108.cell? ⟨gb207, 0, none⟩ = some (u208000) := (blk_cell BK207.out 0).trans rfl; have hfs110 := blk_frozen BK207.out 0; have hns110_0 := NB190_207.out; have hns110_1 := NB191_207.out; have hns110_2 := NB192_207.out; have hms110_0 := NB207_190.out; have hms110_1 := NB207_191.out; have hms110_2 := NB207_192.out; refine skip_ (w1 := ?_) ?_ ?_ ?_ ?_; rotate_left
                 ·kernel_rfl
                 ·rfl
                 ·go_simp; rfl
                 refine hK.out _ _ ?_; clear hK K; refine done_ (done_of HT_.out (by kernel_rfl)) ?_; have hnb111 := NB207_190.out; have hnc111 := NB190_207.out; have hnb112 := NB207_191.out; have hnc112 := NB191_207.out; have hnb113 := NB207_192.out; have hnc113 := NB192_207.out; have hcz114_0 : w108.cell? ⟨gb207, 0, none⟩ = some (u208000) := (blk_cell BK207.out 0).trans rfl; have hfz114_0 := blk_frozen BK207.out 0; try go_wp2_with (first | ((with_reducible refine gate_callee (f := 11) rfl ?_); refine goesL_ (some 94) rfl rfl Try.func11 (by kernel_rfl) rfl #[.agg #[.slice Ao109 y220.length co109]] rfl ma_ ?_; (with_reducible refine (spec_GoodPile.calls kj68 _ _ y220 true _ ?side1 ?side2 A104.out).mono ?_); (case side1 => refine (Kd.R_reads' (e := 46) (base := w.heap.size) (ok := fun k_ => k_ ≠ gb191) (n := y220.length) (c := co109) ?_).2.2; exact (by (with_reducible repeat (first | apply Kd.R_alloc | apply Kd.R_drewN | apply Kd.R_drew)); exact (Kd.R_mono (Kd.R_far (p := ⟨gb207, 0, none⟩) (Kd.R_types HO222.out BK207.out (by decide)) (fun _ hk => hk.2) (.slice Ao109 y220.length co109)) (fun _ h_ => h_.1)))); (case side2 => exact (Kd.R_reads' HO222.out).2.1); rintro e w115 ⟨rfl, hb⟩; refine ⟨_, rfl, ?_⟩; replace HO222 := Aside0.mk (Kd.R_below (by (with_reducible repeat (first | apply Kd.R_alloc | apply Kd.R_drewN | apply Kd.R_drew)); exact (Kd.R_mono (Kd.R_far (p := ⟨gb207, 0, none⟩) (Kd.R_types HO222.out BK207.out (by decide)) (fun _ hk => hk.2) (.slice Ao109 y220.length co109)) (fun _ h_ => h_.1))) hb); replace BK190 := Aside0.mk (blk_below (g := gb190) (o := .cells #[.slice A0_0 l0_0.length c0_0] 29 (0, 0)) (by (with_reducible repeat (first | refine blk_drewN ?_ _ | refine blk_drew ?_ | refine blk_alloc ?_ _)); refine blk_far ?_ NB190_207.out _; (with_reducible repeat (first | refine blk_drewN ?_ _ | refine blk_drew ?_ | refine blk_alloc ?_ _)); exact BK190.out) hb); replace BK191 := Aside0.mk (blk_below (g := gb191) (o := .cells #[.int .i64 a1_0, .int .i64 a1_1, .bool a1_2, .int .i64 a1_3, .int .i64 a1_4, .int .i64 a1_5, .int .i64 a1_6, .int .i64 a1_7, .int .i64 a1_8, .string a1_9] 46 (0, 0)) (by (with_reducible repeat (first | refine blk_drewN ?_ _ | refine blk_drew ?_ | refine blk_alloc ?_ _)); refine blk_far ?_ NB191_207.out _; (with_reducible repeat (first | refine blk_drewN ?_ _ | refine blk_drew ?_ | refine blk_alloc ?_ _)); exact BK191.out) hb); replace BK192 := Aside0.mk (blk_below (g := gb192) (o := .cells #[.slice none 0 0] 29 (0, 0)) (by (with_reducible repeat (first | refine blk_drewN ?_ _ | refine blk_drew ?_ | refine blk_alloc ?_ _)); refine blk_far ?_ NB192_207.out _; (with_reducible repeat (first | refine blk_drewN ?_ _ | refine blk_drew ?_ | refine blk_alloc ?_ _)); exact BK192.out) hb); replace BK207 := Aside0.mk (blk_below (g := gb207) (o := .cells #[.slice Ao109 y220.length co109] 29 (0, 0)) (by (with_reducible repeat (first | refine blk_drewN ?_ _ | refine blk_drew ?_ | refine blk_alloc ?_ _)); refine blk_put (cs := #[u208000]) ?_ 0 _ rfl; (with_reducible repeat (first | refine blk_drewN ?_ _ | refine blk_drew ?_ | refine blk_alloc ?_ _)); exact BK207.out) hb); replace HB := hb_ HB hb; (try clear hb); (try clear hb2); (try clear hk); (try clear hi); have hcz116_0 : w115.cell? ⟨gb207, 0, none⟩ = some (.slice Ao109 y220.length co109) := (blk_cell BK207.out 0).trans rfl; have hfz116_0 := blk_frozen BK207.out 0; have hnb117 := NB192_190.out; have hnc117 := NB190_192.out; have hnb118 := NB192_191.out; have hnc118 := NB191_192.out; have hcz119_0 : w115.cell? ⟨gb192, 0, none⟩ = some (.slice none 0 0) := (blk_cell BK192.out 0).trans rfl; have hfz119_0 := blk_frozen BK192.out 0))
                 refine bodyPost_ret (results_ct rfl _ _ gb192 29 #[.slice Ao109 y220.length co109] (0, 0) _ rfl (by (with_reducible repeat (first | refine blk_drewN ?_ _ | refine blk_drew ?_ | refine blk_alloc ?_ _)); refine blk_put (cs := #[.slice none 0 0]) ?_ 0 _ rfl; (with_reducible repeat (first | refine blk_drewN ?_ _ | refine blk_drew ?_ | refine blk_alloc ?_ _)); exact BK192.out) Try.underlying29 rfl (by kernel_rfl)) rfl ?_; exact ⟨_, er_, by (with_reducible repeat (first | apply Kd.R_alloc | apply Kd.R_drewN | apply Kd.R_drew)); exact Kd.R_mono (Kd.R_far (p := ⟨gb192, 0, none⟩) (Kd.R_types HO222.out BK192.out (by decide)) (fun _ hk => hk.2) (.slice Ao109 y220.length co109)) (fun _ hk => trivial), bq_ HB⟩
                ·replace c105 := Bool.eq_false_iff.mpr c105; subst c105; rw [if_neg (show ¬ (false = true) by decide)] at H; simp only [Option.some.injEq, Prod.mk.injEq] at H; obtain ⟨rfl, rfl⟩ := H; try go_wp2
                 replace HO_208000 := Aside0.mk (Kd.R_drew HO_208000.out); replace BK190 := Aside0.mk (blk_drew BK190.out); replace BK191 := Aside0.mk (blk_drew BK191.out); replace BK192 := Aside0.mk (blk_drew BK192.out); replace BK207 := Aside0.mk (blk_drew BK207.out); replace HB := Aside0.mk (below_drew1 HB.out); have q121 : (x6_33 : Int) ≤ ((l0_0.length : Int) : Int) := od_; obtain ⟨i0121, hi0121, _, hsz121, _⟩ := info_parts info46; have hroom121 : l0_0.length ≤ c0_0 := HC0_0.out; have hC121 : Kd.C k46 _ A0_0 l0_0.length l0_0 := HR0_0.out; have q0121 : (0 : Int) ≤ (x6_33 : Int) := od_; have hcut121 := cut_from (P := Try.prog) 27 46 .i64 Try.underlying27 hi0121 10 hsz121 A0_0 l0_0.length c0_0 x6_33 q0121 q121; have hr121 := Kd.C_drop (m := (x6_33 : Int).toNat) (c := c0_0) hC121 (by omega) hroom121; obtain ⟨A121, hA121⟩ : ∃ A1, A1 = (if c0_0 = (x6_33 : Int).toNat then A0_0 else (A0_0 : Option Addr).map (·.add ((x6_33 : Int).toNat * 10))) := ⟨_, rfl⟩
                 obtain ⟨c121, hc121⟩ : ∃ c1, c1 = c0_0 - (x6_33 : Int).toNat := ⟨_, rfl⟩
                 have hy121 : y216.length = l0_0.length - (x6_33 : Int).toNat := (by rw [Ny216.out, List.length_drop] <;> omega)
                 rw [show (l0_0).drop (x6_33 : Int).toNat = y216 from Ny216.out.symm] at hr121; replace hr121 : Kd.C k46 _ A121 y216.length y216 := (by rw [hA121]; exact hr121)
                 rw [← hy121, ← hA121, ← hc121] at hcut121; have HR219 := Aside0.mk hr121; have HC219 := Aside0.mk (show y216.length ≤ c121 from by rw [hy121, hc121]; exact Nat.sub_le_sub_right hroom121 _); clear hr121 hC121 hroom121 hi0121 hsz121 hc121; have KY121 := Aside0.mk hy121; have KA121 := Aside0.mk hA121; clear hy121 hA121; replace q121 := eq_true q121; refine start_ (n := 9) (S := fun w' => w'.cell? ⟨gb207, 0, none⟩ = some (u208000) ∧ w'.cell? ⟨gb190, 0, none⟩ = some (.slice A0_0 l0_0.length c0_0)) (ds := [8]) #[ff,ff,ff,ff,ff,ff,ff,ff,ff] (by kernel_rfl) rfl rfl ⟨(blk_cell BK207.out 0).trans rfl, (blk_cell BK190.out 0).trans rfl⟩ (fun hHeld => ?_); refine with_tabW spec_AddPiece.tab11 spec_AddPiece.bits11 (fun HT_ HW_ => ?_); generalize wc.drew = w120 at HO_208000 BK190 BK191 BK192 BK207 HB HR219 hHeld ⊢; refine pP 0 85 (mB 9 1) HT_ ?_
                 refine pP 2 87 (mB 9 5) HT_ ?_
                 refine pP 4 89 (mB 9 21) HT_ ?_
                 refine tK 1 86 (mB 9 23) HT_ HW_ hHeld ?_
                 refine tK 3 88 (mB 9 31) HT_ HW_ hHeld ?_
                 refine pP 5 90 (mB 9 63) HT_ ?_
                 refine oN 6 (some 91) (mB 9 127) HT_ (fun K hK => ?_); refine Kd.R_append_rows_step k46 (w0 := w) w.heap.size (by rfl) (.tmp 86) (.tmp 90) 27 46 (.agg #[(.int .i64 0), (.int .i64 0), (.bool false), (.int .i64 0), (.int .i64 0), (.int .i64 0), (.int .i64 0), (.int .i64 0), (.int .i64 0), (.string ⟨#[]⟩)]) 88 rfl Try.underlying27 info46 rfl (by decide) (by omega) u208000 x208000_68 y216 _ _ _ (fun k_ => k_ ≠ gb191) (fun _ => False) rfl rfl ?aO ?aR (fun _ _ h => h) (fun _ h => h.elim) ?aF ?aB ?aS ?aL ?_
                 (case aR => repeat (first | exact (Kd.C_below HR219.out HB.out) | with_reducible first | refine Kd.C_alloc ?_ _ | refine Kd.C_drewN ?_ _ | refine Kd.C_drew ?_))
                 (case aB => exact (bq_ HB))
                 (case aF => exact (fun k_ hk => Kd.freshB (g := gb191) (o := .cells #[.int .i64 a1_0, .int .i64 a1_1, .bool a1_2, .int .i64 a1_3, .int .i64 a1_4, .int .i64 a1_5, .int .i64 a1_6, .int .i64 a1_7, .int .i64 a1_8, .string a1_9] 46 (0, 0)) pq_ k_ hk))
                 (case aO => exact (by (with_reducible repeat (first | apply Kd.R_alloc | apply Kd.R_drewN | apply Kd.R_drew)); exact HO_208000.out))
                 (case aS => exact (below_size (bq_ HB)))
                 (case aL => have := LMc103.out; omega)
                 intro v221 w122 ho hb hg hat; rw [← Ny220.out] at ho; replace BK190 := bg_ BK190 hg (Kd.R_ne HO_208000.out BK190.out (by decide)); replace BK191 := bg_ BK191 hg (Kd.R_away HO_208000.out (fun _ hk => hk)); replace BK192 := bg_ BK192 hg (Kd.R_ne HO_208000.out BK192.out (by decide)); replace BK207 := bg_ BK207 hg (Kd.R_ne HO_208000.out BK207.out (by decide)); replace HB := Aside0.mk (hb); have HO222 := Aside0.mk (ho); clear HO_208000; clear ho hb hg hat; obtain ⟨Ao123, co123, eo123⟩ := Kd.R_slice HO222.out; (first | subst eo123 | (injection eo123 with f1_ f2_ f3_; have f4_ := f1_.symm; have f5_ := f3_.symm; clear f1_ f2_ f3_; subst f4_; subst f5_)); refine hK.out _ _ ⟨(blk_cell BK207.out 0).trans rfl, (blk_cell BK190.out 0).trans rfl⟩ (fun hHeld => ?_); clear hK K; refine nO 91 ?_
                 refine pP 7 92 (mB 9 255) HT_ ?_
                 refine last_ (i := 8) (N := none) #[tt,tt,tt,tt,tt,tt,tt,tt,tt] rfl rfl (one_of HT_.out (by kernel_rfl)) (by decide) (fun K hK => ?_); have hs124 : w122.cell? ⟨gb207, 0, none⟩ = some (u208000) := (blk_cell BK207.out 0).trans rfl; have hfs124 := blk_frozen BK207.out 0; have hns124_0 := NB190_207.out; have hns124_1 := NB191_207.out; have hns124_2 := NB192_207.out; have hms124_0 := NB207_190.out; have hms124_1 := NB207_191.out; have hms124_2 := NB207_192.out; refine skip_ (w1 := ?_) ?_ ?_ ?_ ?_; rotate_left
                 ·kernel_rfl
                 ·rfl
                 ·go_simp; rfl
                 refine hK.out _ _ ?_; clear hK K; refine done_ (done_of HT_.out (by kernel_rfl)) ?_; have hnb125 := NB207_190.out; have hnc125 := NB190_207.out; have hnb126 := NB207_191.out; have hnc126 := NB191_207.out; have hnb127 := NB207_192.out; have hnc127 := NB192_207.out; have hcz128_0 : w122.cell? ⟨gb207, 0, none⟩ = some (u208000) := (blk_cell BK207.out 0).trans rfl; have hfz128_0 := blk_frozen BK207.out 0; try go_wp2_with (first | ((with_reducible refine gate_callee (f := 11) rfl ?_); refine goesL_ (some 94) rfl rfl Try.func11 (by kernel_rfl) rfl #[.agg #[.slice Ao123 y220.length co123]] rfl ma_ ?_; (with_reducible refine (spec_GoodPile.calls kj68 _ _ y220 false _ ?side1 ?side2 A104.out).mono ?_); (case side1 => refine (Kd.R_reads' (e := 46) (base := w.heap.size) (ok := fun k_ => k_ ≠ gb191) (n := y220.length) (c := co123) ?_).2.2; exact (by (with_reducible repeat (first | apply Kd.R_alloc | apply Kd.R_drewN | apply Kd.R_drew)); exact (Kd.R_mono (Kd.R_far (p := ⟨gb207, 0, none⟩) (Kd.R_types HO222.out BK207.out (by decide)) (fun _ hk => hk.2) (.slice Ao123 y220.length co123)) (fun _ h_ => h_.1)))); (case side2 => exact (Kd.R_reads' HO222.out).2.1); rintro e w129 ⟨rfl, hb⟩; refine ⟨_, rfl, ?_⟩; replace HO222 := Aside0.mk (Kd.R_below (by (with_reducible repeat (first | apply Kd.R_alloc | apply Kd.R_drewN | apply Kd.R_drew)); exact (Kd.R_mono (Kd.R_far (p := ⟨gb207, 0, none⟩) (Kd.R_types HO222.out BK207.out (by decide)) (fun _ hk => hk.2) (.slice Ao123 y220.length co123)) (fun _ h_ => h_.1))) hb); replace BK190 := Aside0.mk (blk_below (g := gb190) (o := .cells #[.slice A0_0 l0_0.length c0_0] 29 (0, 0)) (by (with_reducible repeat (first | refine blk_drewN ?_ _ | refine blk_drew ?_ | refine blk_alloc ?_ _)); refine blk_far ?_ NB190_207.out _; (with_reducible repeat (first | refine blk_drewN ?_ _ | refine blk_drew ?_ | refine blk_alloc ?_ _)); exact BK190.out) hb); replace BK191 := Aside0.mk (blk_below (g := gb191) (o := .cells #[.int .i64 a1_0, .int .i64 a1_1, .bool a1_2, .int .i64 a1_3, .int .i64 a1_4, .int .i64 a1_5, .int .i64 a1_6, .int .i64 a1_7, .int .i64 a1_8, .string a1_9] 46 (0, 0)) (by (with_reducible repeat (first | refine blk_drewN ?_ _ | refine blk_drew ?_ | refine blk_alloc ?_ _)); refine blk_far ?_ NB191_207.out _; (with_reducible repeat (first | refine blk_drewN ?_ _ | refine blk_drew ?_ | refine blk_alloc ?_ _)); exact BK191.out) hb); replace BK192 := Aside0.mk (blk_below (g := gb192) (o := .cells #[.slice none 0 0] 29 (0, 0)) (by (with_reducible repeat (first | refine blk_drewN ?_ _ | refine blk_drew ?_ | refine blk_alloc ?_ _)); refine blk_far ?_ NB192_207.out _; (with_reducible repeat (first | refine blk_drewN ?_ _ | refine blk_drew ?_ | refine blk_alloc ?_ _)); exact BK192.out) hb); replace BK207 := Aside0.mk (blk_below (g := gb207) (o := .cells #[.slice Ao123 y220.length co123] 29 (0, 0)) (by (with_reducible repeat (first | refine blk_drewN ?_ _ | refine blk_drew ?_ | refine blk_alloc ?_ _)); refine blk_put (cs := #[u208000]) ?_ 0 _ rfl; (with_reducible repeat (first | refine blk_drewN ?_ _ | refine blk_drew ?_ | refine blk_alloc ?_ _)); exact BK207.out) hb); replace HB := hb_ HB hb; (try clear hb); (try clear hb2); (try clear hk); (try clear hi); have hnb130 := NB192_190.out; have hnc130 := NB190_192.out; have hnb131 := NB192_191.out; have hnc131 := NB191_192.out; have hcz132_0 : w129.cell? ⟨gb192, 0, none⟩ = some (.slice none 0 0) := (blk_cell BK192.out 0).trans rfl; have hfz132_0 := blk_frozen BK192.out 0))
                 refine bodyPost_ret (results_ct rfl _ _ gb192 29 #[.slice none 0 0] (0, 0) _ rfl (by (with_reducible repeat (first | refine blk_drewN ?_ _ | refine blk_drew ?_ | refine blk_alloc ?_ _)); refine blk_put (cs := #[.slice none 0 0]) ?_ 0 _ rfl; (with_reducible repeat (first | refine blk_drewN ?_ _ | refine blk_drew ?_ | refine blk_alloc ?_ _)); exact BK192.out) Try.underlying29 rfl (by kernel_rfl)) rfl ?_; exact ⟨_, er_, by first | exact Kd.R_nil _ _ _ _ _ | exact Kd.N_nil _ _ _ _ _ | exact Kd.V_nil _ _ _ _ _ | exact Kd.Q_nil _ _ _ _ _ | exact Kd.S_nil _ _ _ _ _, bq_ HB⟩
               ·rw [if_neg c103] at H; exact no_ H
              ·rw [if_neg c102] at H; exact no_ H
             ·rw [if_neg c101] at H; exact no_ H
        ·rw [if_neg c46] at H; exact no_ H
       ·rw [if_neg c45] at H; exact no_ H
      ·rw [if_neg c44] at H; exact no_ H
end Go.Proofs.Ytlkbbolkadkedaa.QFnCovers
