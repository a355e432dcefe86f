import Derived.Test.YtaffjcaohbkmoaaQFnBundlesx0
import Derived.Test.YtaffjcaohbkmoaaQFnBundlesx1
import Derived.Test.YtaffjcaohbkmoaaQFnBundlesx2
import Derived.Test.YtaffjcaohbkmoaaQFnBundlesx3
import Derived.Test.YtaffjcaohbkmoaaQFnBundlesx4
import Derived.Test.YtaffjcaohbkmoaaQFnBundlesx5
import Derived.Test.YtaffjcaohbkmoaaQFnBundlesx7
import Derived.Test.YtaffjcaohbkmoaaQFnBundlesx11
import Derived.Test.YtaffjcaohbkmoaaQFnBundlesx14
import Derived.Test.YtaffjcaohbkmoaaQFnBundlesx17
import Derived.Test.YtaffjcaohbkmoaaQFnBundlesx20
import Derived.Test.YtaffjcaohbkmoaaSq
namespace Go.Proofs.Ytaffjcaohbkmoaa.QFnBundles
open Go.RowKit Go.Proofs.YtaffjcaohbkmoaaW.PrintWords Go.Proofs.YtaffjcaohbkmoaaW.PrintLast Go.Proofs.YtaffjcaohbkmoaaW.PrintMore
attribute [local go_sem] max2_int min2_int max_two min_two max_three min_three max_four min_four   -- for this text's walks alone
set_option linter.unusedVariables false
set_option linter.unusedSimpArgs false
attribute [local go_sem high] eqA32
mutual
def laws_FnBundles.j0 : Nat → List Int → ByteArray → Bool → Bool → Int → Int → Bool → Int → Int → Int → Int → Int → Int → ByteArray → Option (Bool)
 | 0, _, _, _, _, _, _, _, _, _, _, _, _, _, _ => none
 | k + 1, x1, x6, x7, x54, x468000, x468001, x468002, x468003, x468004, x468005, x468006, x468007, x468008, x468009 => if x54 = true then (some false) else (if x7 = true then ((impl_ReadBundle.f k x6).bind fun bt473 => (if bt473.2.2.2.2.2.2.2.2.2.2 = true then (laws_FnBundles.j1 k x1 x6 (!(bt473.1 == x468000) || (!(bt473.2.1 == x468001) || (!(bt473.2.2.1 == x468002) || (!(bt473.2.2.2.1 == x468003) || (!(bt473.2.2.2.2.1 == x468004) || (!(bt473.2.2.2.2.2.1 == x468005) || (!(bt473.2.2.2.2.2.2.1 == x468006) || (!(bt473.2.2.2.2.2.2.2.1 == x468007) || (!(bt473.2.2.2.2.2.2.2.2.1 == x468008) || (!(bt473.2.2.2.2.2.2.2.2.2.1.toList == x468009.toList)))))))))))) else (laws_FnBundles.j1 k x1 x6 true))) else (laws_FnBundles.j2 k x1))
def laws_FnBundles.j2 : Nat → List Int → Option (Bool)
 | 0, _ => none
 | k + 1, x1 => (spec_DrawReadBundle.f k x1).bind fun t503 => ((impl_ReadBundle.f k t503).bind fun bt504 => ((spec_ReadBundle.f k t503).bind fun bt516 => (if (bt504.2.2.2.2.2.2.2.2.2.2 != bt516.2.2.2.2.2.2.2.2.2.2) = true then (some false) else (if (!(bt504.1 == bt516.1) || (!(bt504.2.1 == bt516.2.1) || (!(bt504.2.2.1 == bt516.2.2.1) || (!(bt504.2.2.2.1 == bt516.2.2.2.1) || (!(bt504.2.2.2.2.1 == bt516.2.2.2.2.1) || (!(bt504.2.2.2.2.2.1 == bt516.2.2.2.2.2.1) || (!(bt504.2.2.2.2.2.2.1 == bt516.2.2.2.2.2.2.1) || (!(bt504.2.2.2.2.2.2.2.1 == bt516.2.2.2.2.2.2.2.1) || (!(bt504.2.2.2.2.2.2.2.2.1 == bt516.2.2.2.2.2.2.2.2.1) || (!(bt504.2.2.2.2.2.2.2.2.2.1.toList == bt516.2.2.2.2.2.2.2.2.2.1.toList))))))))))) = true then (some false) else ((impl_BundleBytes.f k bt504.1 bt504.2.1 bt504.2.2.1 bt504.2.2.2.1 bt504.2.2.2.2.1 bt504.2.2.2.2.2.1 bt504.2.2.2.2.2.2.1 bt504.2.2.2.2.2.2.2.1 bt504.2.2.2.2.2.2.2.2.1 bt504.2.2.2.2.2.2.2.2.2.1).bind fun bt528 => (if bt504.2.2.2.2.2.2.2.2.2.2 = true then (if bt528.2 = true then (some (bt528.1.toList == t503.toList)) else (some false)) else (some true)))))))
def laws_FnBundles.j1 : Nat → List Int → ByteArray → Bool → Option (Bool)
 | 0, _, _, _ => none
 | k + 1, x1, x6, x67 => if x67 = true then (some false) else (if x6.size ≤ 9223372036854775807 then ((some (bytesOf x6 : List Int)).bind fun y485 => ((laws_numberOf.f k x1).bind fun t488 => (if (y485.length : Int) = 0 then (none) else (if 0 ≤ (Int.tmod t488 (y485.length : Int)) then (if (Int.tmod t488 (y485.length : Int)) < (y485.length : Int) then ((impl_ReadBundle.f k (strOfNums (y485.set ((Int.tmod t488 (y485.length : Int)) : Int).toNat (Go.bits .xor .u8 (rd y485 (Int.tmod t488 (y485.length : Int))) ((wrap64 (1 + (Int.tmod t488 255))) % 256))))).bind fun bt491 => (if bt491.2.2.2.2.2.2.2.2.2.2 = true then (some false) else (laws_FnBundles.j2 k x1))) else (none)) else (none))))) else (none))
end
def laws_FnBundles.f (k : Nat) (l0 : List Int) (l1 : List Int) : Option (Bool) := if (wrap64 ((l0.length : Int) + (l1.length : Int))) > 1048576 then (some true) else ((spec_DrawBundleBytes.f k l0).bind fun bt457 => ((impl_BundleBytes.f k bt457.1 bt457.2.1 bt457.2.2.1 bt457.2.2.2.1 bt457.2.2.2.2.1 bt457.2.2.2.2.2.1 bt457.2.2.2.2.2.2.1 bt457.2.2.2.2.2.2.2.1 bt457.2.2.2.2.2.2.2.2.1 bt457.2.2.2.2.2.2.2.2.2).bind fun bt468 => ((spec_BundleBytes.f k bt457.1 bt457.2.1 bt457.2.2.1 bt457.2.2.2.1 bt457.2.2.2.2.1 bt457.2.2.2.2.2.1 bt457.2.2.2.2.2.2.1 bt457.2.2.2.2.2.2.2.1 bt457.2.2.2.2.2.2.2.2.1 bt457.2.2.2.2.2.2.2.2.2).bind fun bt470 => (if (bt468.2 != bt470.2) = true then (laws_FnBundles.j0 k l1 bt468.1 bt468.2 true bt457.1 bt457.2.1 bt457.2.2.1 bt457.2.2.2.1 bt457.2.2.2.2.1 bt457.2.2.2.2.2.1 bt457.2.2.2.2.2.2.1 bt457.2.2.2.2.2.2.2.1 bt457.2.2.2.2.2.2.2.2.1 bt457.2.2.2.2.2.2.2.2.2) else (if bt468.1.toList = bt470.1.toList then ((impl_GoodBundle.f k bt457.1 bt457.2.1 bt457.2.2.1 bt457.2.2.2.1 bt457.2.2.2.2.1 bt457.2.2.2.2.2.1 bt457.2.2.2.2.2.2.1 bt457.2.2.2.2.2.2.2.1 bt457.2.2.2.2.2.2.2.2.1 bt457.2.2.2.2.2.2.2.2.2).bind fun t472 => (laws_FnBundles.j0 k l1 bt468.1 bt468.2 (t472 != bt470.2) bt457.1 bt457.2.1 bt457.2.2.1 bt457.2.2.2.1 bt457.2.2.2.2.1 bt457.2.2.2.2.2.1 bt457.2.2.2.2.2.2.1 bt457.2.2.2.2.2.2.2.1 bt457.2.2.2.2.2.2.2.2.1 bt457.2.2.2.2.2.2.2.2.2)) else (laws_FnBundles.j0 k l1 bt468.1 bt468.2 true bt457.1 bt457.2.1 bt457.2.2.1 bt457.2.2.2.1 bt457.2.2.2.2.1 bt457.2.2.2.2.2.1 bt457.2.2.2.2.2.2.1 bt457.2.2.2.2.2.2.2.1 bt457.2.2.2.2.2.2.2.2.1 bt457.2.2.2.2.2.2.2.2.2))))))
theorem laws_FnBundles.mono_l : ∀ k, (∀ y0 y1 y2 y3 y4 y5 y6 y7 y8 y9 y10 y11 y12 y13, LeO (laws_FnBundles.j0 k y0 y1 y2 y3 y4 y5 y6 y7 y8 y9 y10 y11 y12 y13) (laws_FnBundles.j0 (k + 1) y0 y1 y2 y3 y4 y5 y6 y7 y8 y9 y10 y11 y12 y13)) ∧ (∀ y0, LeO (laws_FnBundles.j2 k y0) (laws_FnBundles.j2 (k + 1) y0)) ∧ (∀ y0 y1 y2, LeO (laws_FnBundles.j1 k y0 y1 y2) (laws_FnBundles.j1 (k + 1) y0 y1 y2))
 | 0 => ⟨fun _ _ _ _ _ _ _ _ _ _ _ _ _ _ r h => by simp [laws_FnBundles.j0] at h, fun _ r h => by simp [laws_FnBundles.j2] at h, fun _ _ _ r h => by simp [laws_FnBundles.j1] at h⟩
 | k + 1 => by
  obtain ⟨ih0, ih1, ih2⟩ := laws_FnBundles.mono_l k; refine ⟨?_, ?_, ?_⟩
  ·intro y0 y1 y2 y3 y4 y5 y6 y7 y8 y9 y10 y11 y12 y13; unfold laws_FnBundles.j0
   repeat' first
   | (with_reducible exact ih0 _ _ _ _ _ _ _ _ _ _ _ _ _ _)
   | (with_reducible exact ih1 _)
   | (with_reducible exact ih2 _ _ _)
   | (with_reducible exact impl_BundleBytes.mono _ _ _ _ _ _ _ _ _ _ _)
   | (with_reducible exact impl_GoodBundle.mono _ _ _ _ _ _ _ _ _ _ _)
   | (with_reducible exact impl_ReadBundle.mono _ _)
   | (with_reducible exact laws_numberOf.mono _ _)
   | (with_reducible exact spec_BundleBytes.mono _ _ _ _ _ _ _ _ _ _ _)
   | (with_reducible exact spec_DrawBundleBytes.mono _ _)
   | (with_reducible exact spec_DrawReadBundle.mono _ _)
   | (with_reducible exact spec_ReadBundle.mono _ _)
   | (with_reducible exact LeO.refl _)
   | (with_reducible exact LeO.none _)
   | (with_reducible refine LeO.ite ?_ ?_)
   | (with_reducible refine LeO.bind ?_ (fun _ => ?_))
   | exact ih0 _ _ _ _ _ _ _ _ _ _ _ _ _ _
   | exact ih1 _
   | exact ih2 _ _ _
   | exact impl_BundleBytes.mono _ _ _ _ _ _ _ _ _ _ _
   | exact impl_GoodBundle.mono _ _ _ _ _ _ _ _ _ _ _
   | exact impl_ReadBundle.mono _ _
   | exact laws_numberOf.mono _ _
   | exact spec_BundleBytes.mono _ _ _ _ _ _ _ _ _ _ _
   | exact spec_DrawBundleBytes.mono _ _
   | exact spec_DrawReadBundle.mono _ _
   | exact spec_ReadBundle.mono _ _
   | exact LeO.none _
   | refine LeO.ite ?_ ?_
   | refine LeO.bind ?_ (fun _ => ?_)
  ·intro y0; unfold laws_FnBundles.j2
   repeat' first
   | (with_reducible exact ih0 _ _ _ _ _ _ _ _ _ _ _ _ _ _)
   | (with_reducible exact ih1 _)
   | (with_reducible exact ih2 _ _ _)
   | (with_reducible exact impl_BundleBytes.mono _ _ _ _ _ _ _ _ _ _ _)
   | (with_reducible exact impl_GoodBundle.mono _ _ _ _ _ _ _ _ _ _ _)
   | (with_reducible exact impl_ReadBundle.mono _ _)
   | (with_reducible exact laws_numberOf.mono _ _)
   | (with_reducible exact spec_BundleBytes.mono _ _ _ _ _ _ _ _ _ _ _)
   | (with_reducible exact spec_DrawBundleBytes.mono _ _)
   | (with_reducible exact spec_DrawReadBundle.mono _ _)
   | (with_reducible exact spec_ReadBundle.mono _ _)
   | (with_reducible exact LeO.refl _)
   | (with_reducible exact LeO.none _)
   | (with_reducible refine LeO.ite ?_ ?_)
   | (with_reducible refine LeO.bind ?_ (fun _ => ?_))
   | exact ih0 _ _ _ _ _ _ _ _ _ _ _ _ _ _
   | exact ih1 _
   | exact ih2 _ _ _
   | exact impl_BundleBytes.mono _ _ _ _ _ _ _ _ _ _ _
   | exact impl_GoodBundle.mono _ _ _ _ _ _ _ _ _ _ _
   | exact impl_ReadBundle.mono _ _
   | exact laws_numberOf.mono _ _
   | exact spec_BundleBytes.mono _ _ _ _ _ _ _ _ _ _ _
   | exact spec_DrawBundleBytes.mono _ _
   | exact spec_DrawReadBundle.mono _ _
   | exact spec_ReadBundle.mono _ _
   | exact LeO.none _
   | refine LeO.ite ?_ ?_
   | refine LeO.bind ?_ (fun _ => ?_)
  ·intro y0 y1 y2; unfold laws_FnBundles.j1
   repeat' first
   | (with_reducible exact ih0 _ _ _ _ _ _ _ _ _ _ _ _ _ _)
   | (with_reducible exact ih1 _)
   | (with_reducible exact ih2 _ _ _)
   | (with_reducible exact impl_BundleBytes.mono _ _ _ _ _ _ _ _ _ _ _)
   | (with_reducible exact impl_GoodBundle.mono _ _ _ _ _ _ _ _ _ _ _)
   | (with_reducible exact impl_ReadBundle.mono _ _)
   | (with_reducible exact laws_numberOf.mono _ _)
   | (with_reducible exact spec_BundleBytes.mono _ _ _ _ _ _ _ _ _ _ _)
   | (with_reducible exact spec_DrawBundleBytes.mono _ _)
   | (with_reducible exact spec_DrawReadBundle.mono _ _)
   | (with_reducible exact spec_ReadBundle.mono _ _)
   | (with_reducible exact LeO.refl _)
   | (with_reducible exact LeO.none _)
   | (with_reducible refine LeO.ite ?_ ?_)
   | (with_reducible refine LeO.bind ?_ (fun _ => ?_))
   | exact ih0 _ _ _ _ _ _ _ _ _ _ _ _ _ _
   | exact ih1 _
   | exact ih2 _ _ _
   | exact impl_BundleBytes.mono _ _ _ _ _ _ _ _ _ _ _
   | exact impl_GoodBundle.mono _ _ _ _ _ _ _ _ _ _ _
   | exact impl_ReadBundle.mono _ _
   | exact laws_numberOf.mono _ _
   | exact spec_BundleBytes.mono _ _ _ _ _ _ _ _ _ _ _
   | exact spec_DrawBundleBytes.mono _ _
   | exact spec_DrawReadBundle.mono _ _
   | exact spec_ReadBundle.mono _ _
   | exact LeO.none _
   | refine LeO.ite ?_ ?_
   | refine LeO.bind ?_ (fun _ => ?_)
theorem laws_FnBundles.mono : ∀ a0 a1 k, LeO (laws_FnBundles.f k a0 a1) (laws_FnBundles.f (k + 1) a0 a1) := by
 intro a0 a1 k; obtain ⟨ih0, ih1, ih2⟩ := laws_FnBundles.mono_l k; unfold laws_FnBundles.f
 repeat' first
   | (with_reducible exact ih0 _ _ _ _ _ _ _ _ _ _ _ _ _ _)
   | (with_reducible exact ih1 _)
   | (with_reducible exact ih2 _ _ _)
   | (with_reducible exact impl_BundleBytes.mono _ _ _ _ _ _ _ _ _ _ _)
   | (with_reducible exact impl_GoodBundle.mono _ _ _ _ _ _ _ _ _ _ _)
   | (with_reducible exact impl_ReadBundle.mono _ _)
   | (with_reducible exact laws_numberOf.mono _ _)
   | (with_reducible exact spec_BundleBytes.mono _ _ _ _ _ _ _ _ _ _ _)
   | (with_reducible exact spec_DrawBundleBytes.mono _ _)
   | (with_reducible exact spec_DrawReadBundle.mono _ _)
   | (with_reducible exact spec_ReadBundle.mono _ _)
   | (with_reducible exact LeO.refl _)
   | (with_reducible exact LeO.none _)
   | (with_reducible refine LeO.ite ?_ ?_)
   | (with_reducible refine LeO.bind ?_ (fun _ => ?_))
   | exact ih0 _ _ _ _ _ _ _ _ _ _ _ _ _ _
   | exact ih1 _
   | exact ih2 _ _ _
   | exact impl_BundleBytes.mono _ _ _ _ _ _ _ _ _ _ _
   | exact impl_GoodBundle.mono _ _ _ _ _ _ _ _ _ _ _
   | exact impl_ReadBundle.mono _ _
   | exact laws_numberOf.mono _ _
   | exact spec_BundleBytes.mono _ _ _ _ _ _ _ _ _ _ _
   | exact spec_DrawBundleBytes.mono _ _
   | exact spec_DrawReadBundle.mono _ _
   | exact spec_ReadBundle.mono _ _
   | exact LeO.none _
   | refine LeO.ite ?_ ?_
   | refine LeO.bind ?_ (fun _ => ?_)
set_option maxHeartbeats 8000000 in
set_option maxRecDepth 100000 in
theorem laws_FnBundles.calls (k : Nat) (A0 : Option Addr) (c0 : Nat) (l0 : List Int) (A1 : Option Addr) (c1 : Nat) (l1 : List Int) (r : Bool) (w : World) (hr0 : Kd.C (Kd.int .u8) w A0 l0.length l0) (hc0 : l0.length ≤ c0) (hr1 : Kd.C (Kd.int .u8) w A1 l1.length l1) (hc1 : l1.length ≤ c1) (h : laws_FnBundles.f k l0 l1 = some r) :
  Calls Try.prog 4 #[.slice A0 l0.length c0, .slice A1 l1.length c1] w fun e w' => e = .returned (.bool r) ∧ Below w.heap.size w w' := by
 have hu32 := Try.underlying32; have HR0 := Aside0.mk hr0; have HC0 := Aside0.mk hc0; clear hr0 hc0; have HR1 := Aside0.mk hr1; have HC1 := Aside0.mk hc1; clear hr1 hc1; have HB := Aside0.mk (Below.refl w.heap.size w); have H : (if (wrap64 ((l0.length : Int) + (l1.length : Int))) > 1048576 then (some true) else ((spec_DrawBundleBytes.f k l0).bind fun bt457 => ((impl_BundleBytes.f k bt457.1 bt457.2.1 bt457.2.2.1 bt457.2.2.2.1 bt457.2.2.2.2.1 bt457.2.2.2.2.2.1 bt457.2.2.2.2.2.2.1 bt457.2.2.2.2.2.2.2.1 bt457.2.2.2.2.2.2.2.2.1 bt457.2.2.2.2.2.2.2.2.2).bind fun bt468 => ((spec_BundleBytes.f k bt457.1 bt457.2.1 bt457.2.2.1 bt457.2.2.2.1 bt457.2.2.2.2.1 bt457.2.2.2.2.2.1 bt457.2.2.2.2.2.2.1 bt457.2.2.2.2.2.2.2.1 bt457.2.2.2.2.2.2.2.2.1 bt457.2.2.2.2.2.2.2.2.2).bind fun bt470 => (if (bt468.2 != bt470.2) = true then (laws_FnBundles.j0 k l1 bt468.1 bt468.2 true bt457.1 bt457.2.1 bt457.2.2.1 bt457.2.2.2.1 bt457.2.2.2.2.1 bt457.2.2.2.2.2.1 bt457.2.2.2.2.2.2.1 bt457.2.2.2.2.2.2.2.1 bt457.2.2.2.2.2.2.2.2.1 bt457.2.2.2.2.2.2.2.2.2) else (if bt468.1.toList = bt470.1.toList then ((impl_GoodBundle.f k bt457.1 bt457.2.1 bt457.2.2.1 bt457.2.2.2.1 bt457.2.2.2.2.1 bt457.2.2.2.2.2.1 bt457.2.2.2.2.2.2.1 bt457.2.2.2.2.2.2.2.1 bt457.2.2.2.2.2.2.2.2.1 bt457.2.2.2.2.2.2.2.2.2).bind fun t472 => (laws_FnBundles.j0 k l1 bt468.1 bt468.2 (t472 != bt470.2) bt457.1 bt457.2.1 bt457.2.2.1 bt457.2.2.2.1 bt457.2.2.2.2.1 bt457.2.2.2.2.2.1 bt457.2.2.2.2.2.2.1 bt457.2.2.2.2.2.2.2.1 bt457.2.2.2.2.2.2.2.2.1 bt457.2.2.2.2.2.2.2.2.2)) else (laws_FnBundles.j0 k l1 bt468.1 bt468.2 true bt457.1 bt457.2.1 bt457.2.2.1 bt457.2.2.2.1 bt457.2.2.2.2.1 bt457.2.2.2.2.2.1 bt457.2.2.2.2.2.2.1 bt457.2.2.2.2.2.2.2.1 bt457.2.2.2.2.2.2.2.2.1 bt457.2.2.2.2.2.2.2.2.2))))))) = some r := h; clear h; by_cases c3 : (wrap64 ((l0.length : Int) + (l1.length : Int))) > 1048576
 ·rw [if_pos c3] at H; have c3b0 : decide (1048576 < (wrap64 ((l0.length : Int) + (l1.length : Int)))) = true := decide_eq_true c3; clear c3; obtain rfl := Option.some.inj H
  go_enter Try.func4, Try.ntmps4
  go_wp2; go_ret; exact ⟨er_, bq_ HB⟩
 ·rw [if_neg c3] at H; have c3b0 : decide (1048576 < (wrap64 ((l0.length : Int) + (l1.length : Int)))) = false := decide_eq_false c3; clear c3; replace H := Option.bind_eq_some_iff.mp H; obtain ⟨⟨t457, t458, t459, t460, t461, t462, t463, t464, t465, t466⟩, A40, H⟩ := H; replace H : ((impl_BundleBytes.f k t457 t458 t459 t460 t461 t462 t463 t464 t465 t466).bind fun bt468 => ((spec_BundleBytes.f k t457 t458 t459 t460 t461 t462 t463 t464 t465 t466).bind fun bt470 => (if (bt468.2 != bt470.2) = true then (laws_FnBundles.j0 k l1 bt468.1 bt468.2 true t457 t458 t459 t460 t461 t462 t463 t464 t465 t466) else (if bt468.1.toList = bt470.1.toList then ((impl_GoodBundle.f k t457 t458 t459 t460 t461 t462 t463 t464 t465 t466).bind fun t472 => (laws_FnBundles.j0 k l1 bt468.1 bt468.2 (t472 != bt470.2) t457 t458 t459 t460 t461 t462 t463 t464 t465 t466)) else (laws_FnBundles.j0 k l1 bt468.1 bt468.2 true t457 t458 t459 t460 t461 t462 t463 t464 t465 t466))))) = some r := H; have A4 := Aside0.mk A40; clear A40; replace H := Option.bind_eq_some_iff.mp H; obtain ⟨⟨t468, t469⟩, A50, H⟩ := H; replace H : ((spec_BundleBytes.f k t457 t458 t459 t460 t461 t462 t463 t464 t465 t466).bind fun bt470 => (if (t469 != bt470.2) = true then (laws_FnBundles.j0 k l1 t468 t469 true t457 t458 t459 t460 t461 t462 t463 t464 t465 t466) else (if t468.toList = bt470.1.toList then ((impl_GoodBundle.f k t457 t458 t459 t460 t461 t462 t463 t464 t465 t466).bind fun t472 => (laws_FnBundles.j0 k l1 t468 t469 (t472 != bt470.2) t457 t458 t459 t460 t461 t462 t463 t464 t465 t466)) else (laws_FnBundles.j0 k l1 t468 t469 true t457 t458 t459 t460 t461 t462 t463 t464 t465 t466)))) = some r := H; have A5 := Aside0.mk A50; clear A50; replace H := Option.bind_eq_some_iff.mp H; obtain ⟨⟨t470, t471⟩, A60, H⟩ := H; replace H : (if (t469 != t471) = true then (laws_FnBundles.j0 k l1 t468 t469 true t457 t458 t459 t460 t461 t462 t463 t464 t465 t466) else (if t468.toList = t470.toList then ((impl_GoodBundle.f k t457 t458 t459 t460 t461 t462 t463 t464 t465 t466).bind fun t472 => (laws_FnBundles.j0 k l1 t468 t469 (t472 != t471) t457 t458 t459 t460 t461 t462 t463 t464 t465 t466)) else (laws_FnBundles.j0 k l1 t468 t469 true t457 t458 t459 t460 t461 t462 t463 t464 t465 t466))) = some r := H; have A6 := Aside0.mk A60; clear A60; have HC7 := Aside0.mk H; clear H
  go_enter Try.func4, Try.ntmps4
  go_upto_region 6 with (first | ((with_reducible refine gate_callee (f := 16) rfl ?_); refine goesL_ (some 30) rfl rfl Try.func16 (by kernel_rfl) rfl #[.slice A0 l0.length c0] rfl ma_ ?_; (with_reducible refine (spec_DrawBundleBytes.calls k _ _ l0 t457 t458 t459 t460 t461 t462 t463 t464 t465 t466 _ ?side1 ?side2 A4.out).mono ?_); (case side1 => repeat (first | exact HR0.out | with_reducible first | refine Kd.C_alloc ?_ _ | refine Kd.C_drewN ?_ _ | refine Kd.C_drew ?_)); (case side2 => exact HC0.out); rintro e w8 ⟨rfl, hb⟩; refine ⟨_, rfl, ?_⟩; have n0_ := Aside0.mk (bs_ hb); clear HB; have HB := n0_; clear n0_; (try clear hb); (try clear hb2); (try clear hk); (try clear hi)) | ((with_reducible refine gate_dst (N := 5) rfl ?_); refine be_ 5 32 (#[.int .i64 0, .int .i64 0, .bool false, .int .i64 0, .int .i64 0, .int .i64 0, .int .i64 0, .int .i64 0, .int .i64 0, .string (⟨#[]⟩ : ByteArray)]) ?_; intro gb467 hg w9 hbox hb; have n0_ := Aside0.mk (bs_ hb); have n1_ := Aside0.mk (hbox); have n2_ := Aside0.mk ((by rw [hg]; exact bz_ : w.heap.size ≤ gb467)); have n3_ := Aside0.mk ((by rw [hg]; exact bz_ : w.heap.size ≤ gb467)); clear HB; have HB := n0_; have BK467 := n1_; have GW467 := n2_; have GE467 := n3_; clear n0_ n1_ n2_ n3_; clear hb hbox hg; obtain ⟨hcz10_0, hcz10_1, hcz10_2, hcz10_3, hcz10_4, hcz10_5, hcz10_6, hcz10_7, hcz10_8, hcz10_9, hfz10_0, hfz10_1, hfz10_2, hfz10_3, hfz10_4, hfz10_5, hfz10_6, hfz10_7, hfz10_8, hfz10_9⟩ := cf10 BK467.out) | ((with_reducible refine gate_callee (f := 17) rfl ?_); refine goesL_ (some 33) rfl rfl Try.func17 (by kernel_rfl) rfl #[.agg #[.int .i64 t457, .int .i64 t458, .bool t459, .int .i64 t460, .int .i64 t461, .int .i64 t462, .int .i64 t463, .int .i64 t464, .int .i64 t465, .string t466]] rfl ma_ ?_; (with_reducible refine (impl_BundleBytes.calls k t457 t458 t459 t460 t461 t462 t463 t464 t465 t466 t468 t469 _ A5.out).mono ?_); rintro e w11 ⟨rfl, hb⟩; refine ⟨_, rfl, ?_⟩; have n0_ := Aside0.mk (blk_below (g := gb467) (o := .cells #[.int .i64 t457, .int .i64 t458, .bool t459, .int .i64 t460, .int .i64 t461, .int .i64 t462, .int .i64 t463, .int .i64 t464, .int .i64 t465, .string t466] 32 (0, 0)) pb10_ hb); have n1_ := Aside0.mk (below_step (bq_ HB) hb); clear BK467; clear HB; have BK467 := n0_; have HB := n1_; clear n0_ n1_; (try clear hb); (try clear hb2); (try clear hk); (try clear hi); obtain ⟨hcz12_0, hcz12_1, hcz12_2, hcz12_3, hcz12_4, hcz12_5, hcz12_6, hcz12_7, hcz12_8, hcz12_9, hfz12_0, hfz12_1, hfz12_2, hfz12_3, hfz12_4, hfz12_5, hfz12_6, hfz12_7, hfz12_8, hfz12_9⟩ := cf10 BK467.out) | ((with_reducible refine gate_callee (f := 18) rfl ?_); refine goesL_ (some 38) rfl rfl Try.func18 (by kernel_rfl) rfl #[.agg #[.int .i64 t457, .int .i64 t458, .bool t459, .int .i64 t460, .int .i64 t461, .int .i64 t462, .int .i64 t463, .int .i64 t464, .int .i64 t465, .string t466]] rfl ma_ ?_; (with_reducible refine (spec_BundleBytes.calls k t457 t458 t459 t460 t461 t462 t463 t464 t465 t466 t470 t471 _ A6.out).mono ?_); rintro e w13 ⟨rfl, hb⟩; refine ⟨_, rfl, ?_⟩; have n0_ := Aside0.mk (blk_below (g := gb467) (o := .cells #[.int .i64 t457, .int .i64 t458, .bool t459, .int .i64 t460, .int .i64 t461, .int .i64 t462, .int .i64 t463, .int .i64 t464, .int .i64 t465, .string t466] 32 (0, 0)) pq_ hb); have n1_ := Aside0.mk (below_step (bq_ HB) hb); clear BK467; clear HB; have BK467 := n0_; have HB := n1_; clear n0_ n1_; (try clear hb); (try clear hb2); (try clear hk); (try clear hi)))
  (try simp only [Act.put, List.setIfInBounds_toArray, List.set_cons_zero, List.set_cons_succ])
  go_cut [54] (fun v54 wc => ∃ (kq : Nat) (x54_6 : Bool), v54 = .bool x54_6 ∧ Aside0 (laws_FnBundles.j0 kq l1 t468 t469 x54_6 t457 t458 t459 t460 t461 t462 t463 t464 t465 t466 = some r) ∧ Aside0 (kq ≤ k) ∧ Aside0 (wc.heap[gb467]? = some (.cells #[.int .i64 t457, .int .i64 t458, .bool t459, .int .i64 t460, .int .i64 t461, .int .i64 t462, .int .i64 t463, .int .i64 t464, .int .i64 t465, .string t466] 32 (0, 0))) ∧ Aside0 (Below w.heap.size w wc))
  case first =>
   have H := HC7.out; clear HC7; by_cases c14 : (t469 != t471) = true
   ·rw [if_pos c14] at H; have c14b0 : (t469 != t471) = true := c14; (try (have c14b1 : decide (t469 = t471) = false := by simpa using c14)); (try (have c14b2 : (t469 == t471) = false := by simpa using c14)); (try (have c14b3 : ¬ (t469 = t471) := by simpa using c14)); clear c14; (first | rw [c14b0] | (simp only [i64_w, i32_w]; rw [c14b0]) | skip); have H' := Aside0.mk H; clear H; go_wp2; go_meet
    case rel => exact ⟨_, (true), fs_, H', ⟨by first | omega | exact Nat.le_refl _⟩, ⟨pq_⟩, ⟨bq_ HB⟩⟩
   ·rw [if_neg c14] at H; have c14b0 : (t469 != t471) = false := by simpa using c14
    (try (have c14b1 : decide (t469 = t471) = true := by simpa using c14)); (try (have c14b2 : (t469 == t471) = true := by simpa using c14)); clear c14; (first | rw [c14b0] | (simp only [i64_w, i32_w]; rw [c14b0]) | skip); by_cases c15 : t468.toList = t470.toList
    ·rw [if_pos c15] at H; have c15b0 : (t468.toList == t470.toList) = true := beq_iff_eq.mpr c15; have c15b1 : (t468.toList != t470.toList) = false := bne_eq_false_iff_eq.mpr c15; clear c15; replace H := Option.bind_eq_some_iff.mp H; obtain ⟨t472, A160, H⟩ := H; replace H : (laws_FnBundles.j0 k l1 t468 t469 (t472 != t471) t457 t458 t459 t460 t461 t462 t463 t464 t465 t466) = some r := H; have A16 := Aside0.mk A160; clear A160; have H' := Aside0.mk H; clear H; obtain ⟨hcz17_0, hcz17_1, hcz17_2, hcz17_3, hcz17_4, hcz17_5, hcz17_6, hcz17_7, hcz17_8, hcz17_9, hfz17_0, hfz17_1, hfz17_2, hfz17_3, hfz17_4, hfz17_5, hfz17_6, hfz17_7, hfz17_8, hfz17_9⟩ := cf10 BK467.out; go_wp2_with (first | (go_at_call 19; (with_reducible refine (impl_GoodBundle.calls k t457 t458 t459 t460 t461 t462 t463 t464 t465 t466 t472 _ A16.out).mono ?_); rintro e w18 ⟨rfl, hb⟩; have n0_ := Aside0.mk (blk_below (g := gb467) (o := .cells #[.int .i64 t457, .int .i64 t458, .bool t459, .int .i64 t460, .int .i64 t461, .int .i64 t462, .int .i64 t463, .int .i64 t464, .int .i64 t465, .string t466] 32 (0, 0)) pq_ hb); have n1_ := Aside0.mk (below_step (bq_ HB) hb); clear BK467; clear HB; have BK467 := n0_; have HB := n1_; clear n0_ n1_; (try clear hb); (try clear hb2); (try clear hk); (try clear hi))); go_meet
     case rel => exact ⟨_, ((t472 != t471)), fs_, H', ⟨by first | omega | exact Nat.le_refl _⟩, ⟨pq_⟩, ⟨bq_ HB⟩⟩
    ·rw [if_neg c15] at H; have c15b0 : (t468.toList == t470.toList) = false := beq_eq_false_iff_ne.mpr c15; have c15b1 : (t468.toList != t470.toList) = true := bne_iff_ne.mpr c15; have H' := Aside0.mk H; clear H; go_wp2; go_meet
     case rel => exact ⟨_, (true), fs_, H', ⟨by first | omega | exact Nat.le_refl _⟩, ⟨pq_⟩, ⟨bq_ HB⟩⟩
  case rest =>
   clear HC7; try clear c1
   try clear p2
   try clear c3
   try clear c3b0
   try clear c4
   try clear p6
   try clear c14
   try clear c14b0
   try clear c14b1
   try clear c14b2
   try clear c15
   try clear c15b0
   try clear c15b1
   try clear c16
   try clear c17
   try clear c18
   try clear hcz10_0
   try clear hcz10_1
   try clear hcz10_2
   try clear hcz10_3
   try clear hcz10_4
   try clear hcz10_5
   try clear hcz10_6
   try clear hcz10_7
   try clear hcz10_8
   try clear hcz10_9
   try clear hcz12_0
   try clear hcz12_1
   try clear hcz12_2
   try clear hcz12_3
   try clear hcz12_4
   try clear hcz12_5
   try clear hcz12_6
   try clear hcz12_7
   try clear hcz12_8
   try clear hcz12_9
   try clear hcz17_0
   try clear hcz17_1
   try clear hcz17_2
   try clear hcz17_3
   try clear hcz17_4
   try clear hcz17_5
   try clear hcz17_6
   try clear hcz17_7
   try clear hcz17_8
   try clear hcz17_9
   try clear hfz10_0
   try clear hfz10_1
   try clear hfz10_2
   try clear hfz10_3
   try clear hfz10_4
   try clear hfz10_5
   try clear hfz10_6
   try clear hfz10_7
   try clear hfz10_8
   try clear hfz10_9
   try clear hfz12_0
   try clear hfz12_1
   try clear hfz12_2
   try clear hfz12_3
   try clear hfz12_4
   try clear hfz12_5
   try clear hfz12_6
   try clear hfz12_7
   try clear hfz12_8
   try clear hfz12_9
   try clear hfz17_0
   try clear hfz17_1
   try clear hfz17_2
   try clear hfz17_3
   try clear hfz17_4
   try clear hfz17_5
   try clear hfz17_6
   try clear hfz17_7
   try clear hfz17_8
   try clear hfz17_9
   obtain ⟨kq, x54_6, rfl, HA, HJ6, BK467, HB⟩ := hcut; cases kq with
   | zero => exact absurd HA.out (by simp [laws_FnBundles.j0])
   | succ kj6 =>
    have H := HA.out; clear HA; simp only [laws_FnBundles.j0] at H; by_cases c19 : x54_6 = true
    ·subst c19; have H1 : (some false) = some r := by rw [if_pos rfl] at H; exact H
     clear H; have H := H1; clear H1; obtain rfl := Option.some.inj H; go_wp2; go_ret; exact ⟨er_, bq_ HB⟩
    ·replace c19 := Bool.eq_false_iff.mpr c19; subst c19; have H1 : (if t469 = true then ((impl_ReadBundle.f kj6 t468).bind fun bt473 => (if bt473.2.2.2.2.2.2.2.2.2.2 = true then (laws_FnBundles.j1 kj6 l1 t468 (!(bt473.1 == t457) || (!(bt473.2.1 == t458) || (!(bt473.2.2.1 == t459) || (!(bt473.2.2.2.1 == t460) || (!(bt473.2.2.2.2.1 == t461) || (!(bt473.2.2.2.2.2.1 == t462) || (!(bt473.2.2.2.2.2.2.1 == t463) || (!(bt473.2.2.2.2.2.2.2.1 == t464) || (!(bt473.2.2.2.2.2.2.2.2.1 == t465) || (!(bt473.2.2.2.2.2.2.2.2.2.1.toList == t466.toList)))))))))))) else (laws_FnBundles.j1 kj6 l1 t468 true))) else (laws_FnBundles.j2 kj6 l1)) = some r := by rw [if_neg (show ¬ (false = true) by decide)] at H; exact H
     clear H; have H := H1; clear H1; have HC20 := Aside0.mk H; clear H
     go_upto_if 55 with (fail)
     go_cut [] (fun wc => ∃ (kq : Nat), Aside0 (laws_FnBundles.j2 kq l1 = some r) ∧ Aside0 (kq ≤ kj6) ∧ Aside0 (wc.heap[gb467]? = some (.cells #[.int .i64 t457, .int .i64 t458, .bool t459, .int .i64 t460, .int .i64 t461, .int .i64 t462, .int .i64 t463, .int .i64 t464, .int .i64 t465, .string t466] 32 (0, 0))) ∧ Aside0 (Below w.heap.size w wc))
     case first =>
      have H := HC20.out; clear HC20; by_cases c21 : t469 = true
      ·subst c21; have H1 : ((impl_ReadBundle.f kj6 t468).bind fun bt473 => (if bt473.2.2.2.2.2.2.2.2.2.2 = true then (laws_FnBundles.j1 kj6 l1 t468 (!(bt473.1 == t457) || (!(bt473.2.1 == t458) || (!(bt473.2.2.1 == t459) || (!(bt473.2.2.2.1 == t460) || (!(bt473.2.2.2.2.1 == t461) || (!(bt473.2.2.2.2.2.1 == t462) || (!(bt473.2.2.2.2.2.2.1 == t463) || (!(bt473.2.2.2.2.2.2.2.1 == t464) || (!(bt473.2.2.2.2.2.2.2.2.1 == t465) || (!(bt473.2.2.2.2.2.2.2.2.2.1.toList == t466.toList)))))))))))) else (laws_FnBundles.j1 kj6 l1 t468 true))) = some r := by rw [if_pos rfl] at H; exact H
       clear H; have H := H1; clear H1; replace H := Option.bind_eq_some_iff.mp H; obtain ⟨⟨t473, t474, t475, t476, t477, t478, t479, t480, t481, t482, t483⟩, A220, H⟩ := H; replace H : (if t483 = true then (laws_FnBundles.j1 kj6 l1 t468 (!(t473 == t457) || (!(t474 == t458) || (!(t475 == t459) || (!(t476 == t460) || (!(t477 == t461) || (!(t478 == t462) || (!(t479 == t463) || (!(t480 == t464) || (!(t481 == t465) || (!(t482.toList == t466.toList)))))))))))) else (laws_FnBundles.j1 kj6 l1 t468 true)) = some r := H; have A22 := Aside0.mk A220; clear A220; have HC23 := Aside0.mk H; clear H; go_upto_region 10 with (first | ((with_reducible refine gate_callee (f := 20) rfl ?_); refine goesL_ (some 58) rfl rfl Try.func20 (by kernel_rfl) rfl #[.string t468] rfl ma_ ?_; (with_reducible refine (impl_ReadBundle.calls kj6 t468 t473 t474 t475 t476 t477 t478 t479 t480 t481 t482 t483 _ A22.out).mono ?_); rintro e w24 ⟨rfl, hb⟩; refine ⟨_, rfl, ?_⟩; have n0_ := Aside0.mk (blk_below (g := gb467) (o := .cells #[.int .i64 t457, .int .i64 t458, .bool t459, .int .i64 t460, .int .i64 t461, .int .i64 t462, .int .i64 t463, .int .i64 t464, .int .i64 t465, .string t466] 32 (0, 0)) pq_ hb); have n1_ := Aside0.mk (below_step (bq_ HB) hb); clear BK467; clear HB; have BK467 := n0_; have HB := n1_; clear n0_ n1_; (try clear hb); (try clear hb2); (try clear hk); (try clear hi)) | ((with_reducible refine gate_dst (N := 10) rfl ?_); refine be_ 10 32 (#[.int .i64 0, .int .i64 0, .bool false, .int .i64 0, .int .i64 0, .int .i64 0, .int .i64 0, .int .i64 0, .int .i64 0, .string (⟨#[]⟩ : ByteArray)]) ?_; intro gb484 hg w25 hbox hb; have n0_ := Aside0.mk (blk_below (g := gb467) (o := .cells #[.int .i64 t457, .int .i64 t458, .bool t459, .int .i64 t460, .int .i64 t461, .int .i64 t462, .int .i64 t463, .int .i64 t464, .int .i64 t465, .string t466] 32 (0, 0)) pq_ hb); have n1_ := Aside0.mk (below_step (bq_ HB) hb); have n2_ := Aside0.mk (hbox); have n3_ := Aside0.mk ((by rw [hg]; exact (below_size (bq_ HB)) : w.heap.size ≤ gb484)); have n4_ := Aside0.mk ((by rw [hg]; exact (below_size (bq_ HB)) : w.heap.size ≤ gb484)); have n5_ := Aside0.mk ((by rw [hg]; exact Nat.ne_of_lt (blk_lt (g := gb467) (o := .cells #[.int .i64 t457, .int .i64 t458, .bool t459, .int .i64 t460, .int .i64 t461, .int .i64 t462, .int .i64 t463, .int .i64 t464, .int .i64 t465, .string t466] 32 (0, 0)) pq_) : gb467 ≠ gb484)); have n6_ := Aside0.mk ((by rw [hg]; exact Nat.ne_of_gt (blk_lt (g := gb467) (o := .cells #[.int .i64 t457, .int .i64 t458, .bool t459, .int .i64 t460, .int .i64 t461, .int .i64 t462, .int .i64 t463, .int .i64 t464, .int .i64 t465, .string t466] 32 (0, 0)) pq_) : gb484 ≠ gb467)); clear BK467; clear HB; have BK467 := n0_; have HB := n1_; have BK484 := n2_; have GW484 := n3_; have GE484 := n4_; have NB467_484 := n5_; have NB484_467 := n6_; clear n0_ n1_ n2_ n3_ n4_ n5_ n6_; clear hb hbox hg; have hnb26 := NB484_467.out; have hnc26 := NB467_484.out; obtain ⟨hcz27_0, hcz27_1, hcz27_2, hcz27_3, hcz27_4, hcz27_5, hcz27_6, hcz27_7, hcz27_8, hcz27_9, hfz27_0, hfz27_1, hfz27_2, hfz27_3, hfz27_4, hfz27_5, hfz27_6, hfz27_7, hfz27_8, hfz27_9⟩ := cf10 BK484.out))
       (try simp only [Act.put, List.setIfInBounds_toArray, List.set_cons_zero, List.set_cons_succ])
       go_cut [67] (fun v67 wc => ∃ (kq : Nat) (x67_22 : Bool), v67 = .bool x67_22 ∧ Aside0 (laws_FnBundles.j1 kq l1 t468 x67_22 = some r) ∧ Aside0 (kq ≤ kj6) ∧ Aside0 (wc.heap[gb467]? = some (.cells #[.int .i64 t457, .int .i64 t458, .bool t459, .int .i64 t460, .int .i64 t461, .int .i64 t462, .int .i64 t463, .int .i64 t464, .int .i64 t465, .string t466] 32 (0, 0))) ∧ Aside0 (wc.heap[gb484]? = some (.cells #[.int .i64 t473, .int .i64 t474, .bool t475, .int .i64 t476, .int .i64 t477, .int .i64 t478, .int .i64 t479, .int .i64 t480, .int .i64 t481, .string t482] 32 (0, 0))) ∧ Aside0 (Below w.heap.size w wc))
       case first =>
        have H := HC23.out; clear HC23; by_cases c28 : t483 = true
        ·subst c28; have H1 : (laws_FnBundles.j1 kj6 l1 t468 (!(t473 == t457) || (!(t474 == t458) || (!(t475 == t459) || (!(t476 == t460) || (!(t477 == t461) || (!(t478 == t462) || (!(t479 == t463) || (!(t480 == t464) || (!(t481 == t465) || (!(t482.toList == t466.toList)))))))))))) = some r := by rw [if_pos rfl] at H; exact H
         clear H; have H := H1; clear H1; have H' := Aside0.mk H; clear H; have hnb29 := NB484_467.out; have hnc29 := NB467_484.out; obtain ⟨hcz30_0, hcz30_1, hcz30_2, hcz30_3, hcz30_4, hcz30_5, hcz30_6, hcz30_7, hcz30_8, hcz30_9, hfz30_0, hfz30_1, hfz30_2, hfz30_3, hfz30_4, hfz30_5, hfz30_6, hfz30_7, hfz30_8, hfz30_9⟩ := cf10 BK484.out; obtain ⟨hcz31_0, hcz31_1, hcz31_2, hcz31_3, hcz31_4, hcz31_5, hcz31_6, hcz31_7, hcz31_8, hcz31_9, hfz31_0, hfz31_1, hfz31_2, hfz31_3, hfz31_4, hfz31_5, hfz31_6, hfz31_7, hfz31_8, hfz31_9⟩ := cf10 BK467.out; go_wp2; go_meet
         case rel => exact ⟨_, ((!(t473 == t457) || (!(t474 == t458) || (!(t475 == t459) || (!(t476 == t460) || (!(t477 == t461) || (!(t478 == t462) || (!(t479 == t463) || (!(t480 == t464) || (!(t481 == t465) || (!(t482.toList == t466.toList)))))))))))), fs_, H', ⟨by have := HJ6.out; first | omega | exact Nat.le_refl _⟩, ⟨by (with_reducible repeat (first | refine blk_drewN ?_ _ | refine blk_drew ?_ | refine blk_alloc ?_ _)); (iterate 10 refine blk_far ?_ NB467_484.out _); (with_reducible repeat (first | refine blk_drewN ?_ _ | refine blk_drew ?_ | refine blk_alloc ?_ _)); exact BK467.out⟩, ⟨pb10_⟩, ⟨bq_ HB⟩⟩
        ·replace c28 := Bool.eq_false_iff.mpr c28; subst c28; have H1 : (laws_FnBundles.j1 kj6 l1 t468 true) = some r := by rw [if_neg (show ¬ (false = true) by decide)] at H; exact H
         clear H; have H := H1; clear H1; have H' := Aside0.mk H; clear H; go_wp2; go_meet
         case rel => exact ⟨_, (true), fs_, H', ⟨by have := HJ6.out; first | omega | exact Nat.le_refl _⟩, ⟨by (with_reducible repeat (first | refine blk_drewN ?_ _ | refine blk_drew ?_ | refine blk_alloc ?_ _)); (iterate 10 refine blk_far ?_ NB467_484.out _); (with_reducible repeat (first | refine blk_drewN ?_ _ | refine blk_drew ?_ | refine blk_alloc ?_ _)); exact BK467.out⟩, ⟨pb10_⟩, ⟨bq_ HB⟩⟩
       case rest =>
        clear HC23; try clear c1
        try clear c2
        try clear p2
        try clear c3
        try clear c3b0
        try clear c4
        try clear p6
        try clear c14
        try clear c14b0
        try clear c14b1
        try clear c14b2
        try clear c15
        try clear c15b0
        try clear c15b1
        try clear c16
        try clear c17
        try clear c18
        try clear c19
        try clear c20
        try clear c21
        try clear c26
        try clear c28
        try clear c29
        try clear hcz10_0
        try clear hcz10_1
        try clear hcz10_2
        try clear hcz10_3
        try clear hcz10_4
        try clear hcz10_5
        try clear hcz10_6
        try clear hcz10_7
        try clear hcz10_8
        try clear hcz10_9
        try clear hcz12_0
        try clear hcz12_1
        try clear hcz12_2
        try clear hcz12_3
        try clear hcz12_4
        try clear hcz12_5
        try clear hcz12_6
        try clear hcz12_7
        try clear hcz12_8
        try clear hcz12_9
        try clear hcz17_0
        try clear hcz17_1
        try clear hcz17_2
        try clear hcz17_3
        try clear hcz17_4
        try clear hcz17_5
        try clear hcz17_6
        try clear hcz17_7
        try clear hcz17_8
        try clear hcz17_9
        try clear hcz27_0
        try clear hcz27_1
        try clear hcz27_2
        try clear hcz27_3
        try clear hcz27_4
        try clear hcz27_5
        try clear hcz27_6
        try clear hcz27_7
        try clear hcz27_8
        try clear hcz27_9
        try clear hcz30_0
        try clear hcz30_1
        try clear hcz30_2
        try clear hcz30_3
        try clear hcz30_4
        try clear hcz30_5
        try clear hcz30_6
        try clear hcz30_7
        try clear hcz30_8
        try clear hcz30_9
        try clear hcz31_0
        try clear hcz31_1
        try clear hcz31_2
        try clear hcz31_3
        try clear hcz31_4
        try clear hcz31_5
        try clear hcz31_6
        try clear hcz31_7
        try clear hcz31_8
        try clear hcz31_9
        try clear hfz10_0
        try clear hfz10_1
        try clear hfz10_2
        try clear hfz10_3
        try clear hfz10_4
        try clear hfz10_5
        try clear hfz10_6
        try clear hfz10_7
        try clear hfz10_8
        try clear hfz10_9
        try clear hfz12_0
        try clear hfz12_1
        try clear hfz12_2
        try clear hfz12_3
        try clear hfz12_4
        try clear hfz12_5
        try clear hfz12_6
        try clear hfz12_7
        try clear hfz12_8
        try clear hfz12_9
        try clear hfz17_0
        try clear hfz17_1
        try clear hfz17_2
        try clear hfz17_3
        try clear hfz17_4
        try clear hfz17_5
        try clear hfz17_6
        try clear hfz17_7
        try clear hfz17_8
        try clear hfz17_9
        try clear hfz27_0
        try clear hfz27_1
        try clear hfz27_2
        try clear hfz27_3
        try clear hfz27_4
        try clear hfz27_5
        try clear hfz27_6
        try clear hfz27_7
        try clear hfz27_8
        try clear hfz27_9
        try clear hfz30_0
        try clear hfz30_1
        try clear hfz30_2
        try clear hfz30_3
        try clear hfz30_4
        try clear hfz30_5
        try clear hfz30_6
        try clear hfz30_7
        try clear hfz30_8
        try clear hfz30_9
        try clear hfz31_0
        try clear hfz31_1
        try clear hfz31_2
        try clear hfz31_3
        try clear hfz31_4
        try clear hfz31_5
        try clear hfz31_6
        try clear hfz31_7
        try clear hfz31_8
        try clear hfz31_9
        try clear p2
        try clear p6
        obtain ⟨kq, x67_22, rfl, HA, HJ22, BK467, BK484, HB⟩ := hcut; cases kq with
        | zero => exact absurd HA.out (by simp [laws_FnBundles.j1])
        | succ kj22 =>
         have H := HA.out; clear HA; simp only [laws_FnBundles.j1] at H; by_cases c32 : x67_22 = true
         ·subst c32; have H1 : (some false) = some r := by rw [if_pos rfl] at H; exact H
          clear H; have H := H1; clear H1; obtain rfl := Option.some.inj H; go_wp2; go_ret; exact ⟨er_, bq_ HB⟩
         ·replace c32 := Bool.eq_false_iff.mpr c32; subst c32; have H1 : (if t468.size ≤ 9223372036854775807 then ((some (bytesOf t468 : List Int)).bind fun y485 => ((laws_numberOf.f kj22 l1).bind fun t488 => (if (y485.length : Int) = 0 then (none) else (if 0 ≤ (Int.tmod t488 (y485.length : Int)) then (if (Int.tmod t488 (y485.length : Int)) < (y485.length : Int) then ((impl_ReadBundle.f kj22 (strOfNums (y485.set ((Int.tmod t488 (y485.length : Int)) : Int).toNat (Go.bits .xor .u8 (rd y485 (Int.tmod t488 (y485.length : Int))) ((wrap64 (1 + (Int.tmod t488 255))) % 256))))).bind fun bt491 => (if bt491.2.2.2.2.2.2.2.2.2.2 = true then (some false) else (laws_FnBundles.j2 kj22 l1))) else (none)) else (none))))) else (none)) = some r := by rw [if_neg (show ¬ (false = true) by decide)] at H; exact H
          clear H; have H := H1; clear H1; by_cases c33 : t468.size ≤ 9223372036854775807
          ·rw [if_pos c33] at H; have c33b0 := eq_true c33; have c33b1 : decide (t468.size ≤ 9223372036854775807) = true := decide_eq_true c33; try have c33b2 : (9223372036854775807 < t468.size) = False := eq_false (Nat.not_lt.2 c33)
           clear c33; obtain ⟨y485, hy485⟩ : ∃ y_ : List Int, y_ = (bytesOf t468) := ⟨_, rfl⟩
           replace H : ((laws_numberOf.f kj22 l1).bind fun t488 => (if (y485.length : Int) = 0 then (none) else (if 0 ≤ (Int.tmod t488 (y485.length : Int)) then (if (Int.tmod t488 (y485.length : Int)) < (y485.length : Int) then ((impl_ReadBundle.f kj22 (strOfNums (y485.set ((Int.tmod t488 (y485.length : Int)) : Int).toNat (Go.bits .xor .u8 (rd y485 (Int.tmod t488 (y485.length : Int))) ((wrap64 (1 + (Int.tmod t488 255))) % 256))))).bind fun bt491 => (if bt491.2.2.2.2.2.2.2.2.2.2 = true then (some false) else (laws_FnBundles.j2 kj22 l1))) else (none)) else (none)))) = some r := by first | (rw [hy485]; with_reducible exact H) | (have H2_ := (Option.bind_some _ _).symm.trans H; rw [hy485]; with_reducible exact H2_) | (have H2_ := (Option.bind_some _ _).symm.trans H; with_reducible exact H2_) | with_reducible exact H | (rw [hy485]; exact H) | exact H
           have Ny485 := Aside0.mk hy485; clear hy485; replace H := Option.bind_eq_some_iff.mp H; obtain ⟨t488, A340, H⟩ := H; replace H : (if (y485.length : Int) = 0 then (none) else (if 0 ≤ (Int.tmod t488 (y485.length : Int)) then (if (Int.tmod t488 (y485.length : Int)) < (y485.length : Int) then ((impl_ReadBundle.f kj22 (strOfNums (y485.set ((Int.tmod t488 (y485.length : Int)) : Int).toNat (Go.bits .xor .u8 (rd y485 (Int.tmod t488 (y485.length : Int))) ((wrap64 (1 + (Int.tmod t488 255))) % 256))))).bind fun bt491 => (if bt491.2.2.2.2.2.2.2.2.2.2 = true then (some false) else (laws_FnBundles.j2 kj22 l1))) else (none)) else (none))) = some r := H; have A34 := Aside0.mk A340; clear A340; by_cases c35 : (y485.length : Int) = 0
           ·rw [if_pos c35] at H; exact no_ H
           ·rw [if_neg c35] at H; have c35b0 : ((y485.length : Int) == 0) = false := beq_eq_false_iff_ne.mpr c35; have c35b1 : ((y485.length : Int) != 0) = true := bne_iff_ne.mpr c35; have c35b2 : ¬ (y485 = []) := fun h_ => c35 (by rw [h_]; rfl)
            obtain ⟨ji36, hji36⟩ : ∃ j_ : Int, (Int.tmod t488 (y485.length : Int)) = j_ := ⟨_, rfl⟩
            replace H : (if 0 ≤ (ji36) then (if (ji36) < (y485.length : Int) then ((impl_ReadBundle.f kj22 (strOfNums (y485.set ((ji36) : Int).toNat (Go.bits .xor .u8 (rd y485 (ji36)) ((wrap64 (1 + (Int.tmod t488 255))) % 256))))).bind fun bt491 => (if bt491.2.2.2.2.2.2.2.2.2.2 = true then (some false) else (laws_FnBundles.j2 kj22 l1))) else (none)) else (none)) = some r := by first | (rw [hji36] at H; exact H) | (simp only [hji36] at H ⊢; exact H)
            (try rw [hji36] at A34); by_cases c37 : 0 ≤ (ji36)
            ·rw [if_pos c37] at H; have c37b0 : decide (0 ≤ (ji36)) = true := decide_eq_true c37; clear c37; by_cases c38 : (ji36) < (y485.length : Int)
             ·rw [if_pos c38] at H; have c38b0 : decide ((ji36) < (y485.length : Int)) = true := decide_eq_true c38; clear c38; obtain ⟨y490, hy490⟩ : ∃ y_ : List Int, y_ = (y485.set ((ji36) : Int).toNat (Go.bits .xor .u8 (rd y485 (ji36)) ((wrap64 (1 + (Int.tmod t488 255))) % 256))) := ⟨_, rfl⟩
              replace H : ((impl_ReadBundle.f kj22 (strOfNums y490)).bind fun bt491 => (if bt491.2.2.2.2.2.2.2.2.2.2 = true then (some false) else (laws_FnBundles.j2 kj22 l1))) = some r := by first | (rw [hy490]; with_reducible exact H) | (have H2_ := (Option.bind_some _ _).symm.trans H; rw [hy490]; with_reducible exact H2_) | (have H2_ := (Option.bind_some _ _).symm.trans H; with_reducible exact H2_) | with_reducible exact H | (rw [hy490]; exact H) | exact H
              have Ny490 := Aside0.mk hy490; clear hy490; replace H := Option.bind_eq_some_iff.mp H; obtain ⟨⟨t491, t492, t493, t494, t495, t496, t497, t498, t499, t500, t501⟩, A400, H⟩ := H; replace H : (if t501 = true then (some false) else (laws_FnBundles.j2 kj22 l1)) = some r := H; have A40 := Aside0.mk A400; clear A400; by_cases c41 : t501 = true
              ·subst c41; have H1 : (some false) = some r := by rw [if_pos rfl] at H; exact H
               clear H; have H := H1; clear H1; obtain rfl := Option.some.inj H; go_wp2_with (first | ((with_reducible refine gate_dst (N := 69) rfl ?_); refine Kd.V_convB _ 5 rfl (N' := 69) rfl 9 22 _ rfl t468 (by first | rfl | (go_simp; done) | (go_simp; rfl)) Try.underlying9 Try.underlying22 Try.underlying5 (od_) (ok := fun k_ => wc.heap.size ≤ k_) (Nat.le_refl _) (Below.refl _ _) (Nat.le_refl _) Ny485.out ?_; intro gocv44 cocv44 obcv44 w42 ho43 hob hfr hge hb hg_; clear hg_; have n0_ := Aside0.mk (Kd.V_lower (Kd.V_mono (ok' := fun k_ => k_ ≠ gb467 ∧ k_ ≠ gb484) ho43 (fun k_ hk_ => ⟨(Kd.freshB (g := gb467) (o := .cells #[.int .i64 t457, .int .i64 t458, .bool t459, .int .i64 t460, .int .i64 t461, .int .i64 t462, .int .i64 t463, .int .i64 t464, .int .i64 t465, .string t466] 32 (0, 0)) pq_ k_ hk_), (Kd.freshB (g := gb484) (o := .cells #[.int .i64 t473, .int .i64 t474, .bool t475, .int .i64 t476, .int .i64 t477, .int .i64 t478, .int .i64 t479, .int .i64 t480, .int .i64 t481, .string t482] 32 (0, 0)) pq_ k_ hk_)⟩)) (below_size (bq_ HB))); have n1_ := Aside0.mk (blk_below (g := gb467) (o := .cells #[.int .i64 t457, .int .i64 t458, .bool t459, .int .i64 t460, .int .i64 t461, .int .i64 t462, .int .i64 t463, .int .i64 t464, .int .i64 t465, .string t466] 32 (0, 0)) pq_ hb); have n2_ := Aside0.mk (blk_below (g := gb484) (o := .cells #[.int .i64 t473, .int .i64 t474, .bool t475, .int .i64 t476, .int .i64 t477, .int .i64 t478, .int .i64 t479, .int .i64 t480, .int .i64 t481, .string t482] 32 (0, 0)) pq_ hb); have n3_ := Aside0.mk (below_step (bq_ HB) hb); have n4_ := Aside0.mk (hob); have n5_ := Aside0.mk (hfr); have n6_ := Aside0.mk ((by rw [hge]; exact (below_size (bq_ HB)) : w.heap.size ≤ gocv44)); have n7_ := Aside0.mk ((by rw [hge]; exact (below_size (bq_ HB)) : w.heap.size ≤ gocv44)); have n8_ := Aside0.mk ((by rw [hge]; exact (below_size (bq_ HB)) : w.heap.size ≤ gocv44)); have n9_ := Aside0.mk ((by rw [hge]; exact Nat.ne_of_lt (blk_lt (g := gb467) (o := .cells #[.int .i64 t457, .int .i64 t458, .bool t459, .int .i64 t460, .int .i64 t461, .int .i64 t462, .int .i64 t463, .int .i64 t464, .int .i64 t465, .string t466] 32 (0, 0)) pq_) : gb467 ≠ gocv44)); have n10_ := Aside0.mk ((by rw [hge]; exact Nat.ne_of_gt (blk_lt (g := gb467) (o := .cells #[.int .i64 t457, .int .i64 t458, .bool t459, .int .i64 t460, .int .i64 t461, .int .i64 t462, .int .i64 t463, .int .i64 t464, .int .i64 t465, .string t466] 32 (0, 0)) pq_) : gocv44 ≠ gb467)); have n11_ := Aside0.mk ((by rw [hge]; exact Nat.ne_of_lt (blk_lt (g := gb484) (o := .cells #[.int .i64 t473, .int .i64 t474, .bool t475, .int .i64 t476, .int .i64 t477, .int .i64 t478, .int .i64 t479, .int .i64 t480, .int .i64 t481, .string t482] 32 (0, 0)) pq_) : gb484 ≠ gocv44)); have n12_ := Aside0.mk ((by rw [hge]; exact Nat.ne_of_gt (blk_lt (g := gb484) (o := .cells #[.int .i64 t473, .int .i64 t474, .bool t475, .int .i64 t476, .int .i64 t477, .int .i64 t478, .int .i64 t479, .int .i64 t480, .int .i64 t481, .string t482] 32 (0, 0)) pq_) : gocv44 ≠ gb484)); clear BK467; clear BK484; clear HB; have HO487 := n0_; have BK467 := n1_; have BK484 := n2_; have HB := n3_; have BCcv44 := n4_; have FCcv44 := n5_; have GBcv44 := n6_; have GW70069 := n7_; have GE70069 := n8_; have NB467_70069 := n9_; have NB70069_467 := n10_; have NB484_70069 := n11_; have NB70069_484 := n12_; clear n0_ n1_ n2_ n3_ n4_ n5_ n6_ n7_ n8_ n9_ n10_ n11_ n12_; clear hb ho43 hob hfr hge) | ((with_reducible refine gate_callee (f := 12) rfl ?_); refine goesL_ (some 71) rfl rfl Try.func12 (by kernel_rfl) rfl #[.slice A1 l1.length c1] rfl ma_ ?_; (with_reducible refine (laws_numberOf.calls kj22 _ _ l1 t488 _ ?side1 ?side2 A34.out).mono ?_); (case side1 => repeat (first | exact (Kd.C_below HR1.out HB.out) | with_reducible first | refine Kd.C_alloc ?_ _ | refine Kd.C_drewN ?_ _ | refine Kd.C_drew ?_)); (case side2 => exact HC1.out); rintro e w' ⟨rfl, ⟨nd, rfl⟩⟩; refine ⟨_, rfl, ?_⟩; (try (rw [drewN_self w42]; generalize hq_ : World.drewN w42 _ = w42; have n0_ : Aside0 (Kd.V (Kd.int .u8) 5 w42 w.heap.size (fun k_ => k_ ≠ gb467 ∧ k_ ≠ gb484) (.slice (some ⟨gocv44, 0, none⟩) y485.length cocv44) y485) := ⟨by rw [← hq_]; exact (by (with_reducible repeat (first | apply Kd.V_alloc | apply Kd.V_drewN | apply Kd.V_drew)); exact HO487.out)⟩; have n1_ : Aside0 (w42.heap[gocv44]? = some (obcv44)) := ⟨by rw [← hq_]; exact pq_⟩; have n2_ : Aside0 (w42.heap[gb467]? = some (.cells #[.int .i64 t457, .int .i64 t458, .bool t459, .int .i64 t460, .int .i64 t461, .int .i64 t462, .int .i64 t463, .int .i64 t464, .int .i64 t465, .string t466] 32 (0, 0))) := ⟨by rw [← hq_]; exact pq_⟩; have n3_ : Aside0 (w42.heap[gb484]? = some (.cells #[.int .i64 t473, .int .i64 t474, .bool t475, .int .i64 t476, .int .i64 t477, .int .i64 t478, .int .i64 t479, .int .i64 t480, .int .i64 t481, .string t482] 32 (0, 0))) := ⟨by rw [← hq_]; exact pq_⟩; have n4_ : Aside0 (Below w.heap.size w w42) := ⟨by rw [← hq_]; exact (bq_ HB)⟩; clear HO487 BCcv44 BK467 BK484 HB hq_; have HO487 := n0_; have BCcv44 := n1_; have BK467 := n2_; have BK484 := n3_; have HB := n4_; clear n0_ n1_ n2_ n3_ n4_)); have p489 : 0 ≤ ((ji36) : Int) := od_; have q489 : (ji36) < (y485.length : Int) := od_; obtain ⟨ad489, e489, hx489_0⟩ := Kd.at_int (Kd.V_reads' HO487.out).2.2 (ji36) p489 q489; obtain rfl : (⟨gocv44, 0, none⟩ : Addr) = ad489 := (by injection e489); (first | simp only [add_plain] at hx489_0 | simp only [add_at] at hx489_0 | simp only [Addr.add, Nat.zero_add] at hx489_0 | skip); replace p489 := eq_true p489; replace q489 := eq_true q489; have p39 : 0 ≤ ((ji36) : Int) := od_; have q39 : ((ji36) : Int) < ((y485.length : Int) : Int) := od_; obtain ⟨hx39_0, hf39_0⟩ := Kd.V_cellb 0 (HO487.out) BCcv44.out FCcv44.out ((ji36) : Int) p39 q39; replace p39 := eq_true p39; replace q39 := eq_true q39; obtain ⟨hy45_, hz45_⟩ := Kd.V_cellb 0 HO487.out BCcv44.out FCcv44.out ((ji36) : Int) (od_) (od_); have HP45 := Kd.V_putb HO487.out BCcv44.out FCcv44.out ((ji36) : Int) (od_) (by have h_ : ((ji36) : Int) < ((y485.length : Int) : Int) := od_; first | exact h_ | (have e_ := (Kd.V_reads' HO487.out).1; omega) | simpa using h_) (Go.bits .xor .u8 (rd y485 (ji36)) ((wrap64 (1 + (Int.tmod t488 255))) % 256))) | ((with_reducible refine gate_store (t := 5) (p := 84) rfl ?_); refine store_event (t := 5) (p := 84) (v := ?vo_w46) (w1 := (w42.setCell ⟨gocv44, ((ji36) : Int).toNat, none⟩ (.int .u8 (Go.bits .xor .u8 (rd y485 (ji36)) ((wrap64 (1 + (Int.tmod t488 255))) % 256))))) ?hg ?ho ?hn ?hr ?_; (case ho => rfl); (case hg => rfl); (case hn => rfl); (case hr => first | (go_simp; done) | (go_simp; rfl)); intro w46 hw; have hg : w42.grownBy w46 (some gocv44) := (by rw [hw]; exact HP45.2); have hp_ : Kd.V (Kd.int .u8) 5 w46 w.heap.size (fun k_ => k_ ≠ gb467 ∧ k_ ≠ gb484) (.slice (some ⟨gocv44, 0, none⟩) y485.length cocv44) y490 := (by rw [hw, Ny490.out]; exact HP45.1); clear HP45; have n0_ := Aside0.mk (blk_grown (g := gb467) (o := .cells #[.int .i64 t457, .int .i64 t458, .bool t459, .int .i64 t460, .int .i64 t461, .int .i64 t462, .int .i64 t463, .int .i64 t464, .int .i64 t465, .string t466] 32 (0, 0)) pq_ hg (fun e_ => NB467_70069.out (Option.some.inj e_))); have n1_ := Aside0.mk (blk_grown (g := gb484) (o := .cells #[.int .i64 t473, .int .i64 t474, .bool t475, .int .i64 t476, .int .i64 t477, .int .i64 t478, .int .i64 t479, .int .i64 t480, .int .i64 t481, .string t482] 32 (0, 0)) pq_ hg (fun e_ => NB484_70069.out (Option.some.inj e_))); have n2_ := Aside0.mk (hp_); have n3_ := Aside0.mk ((by rw [hw]; exact below_set (HB.out) GBcv44.out : Below w.heap.size w w46)); clear BK467; clear BK484; clear HO487; clear HB; clear BCcv44; have BK467 := n0_; have BK484 := n1_; have HO487 := n2_; have HB := n3_; clear n0_ n1_ n2_ n3_; clear hg hw hp_; have hcv47 := Kd.C_string (P := Try.prog) (A := some ⟨gocv44, 0, none⟩) (c := cocv44) Try.underlying22 Try.underlying5 Try.underlying9 (Kd.V_reads' HO487.out).2.2; rw [← (Kd.V_reads' HO487.out).1] at hcv47) | ((with_reducible refine gate_callee (f := 20) rfl ?_); refine goesL_ (some 88) rfl rfl Try.func20 (by kernel_rfl) rfl #[.string (strOfNums y490)] rfl ma_ ?_; (with_reducible refine (impl_ReadBundle.calls kj22 (strOfNums y490) t491 t492 t493 t494 t495 t496 t497 t498 t499 t500 true _ A40.out).mono ?_); rintro e w48 ⟨rfl, hb⟩; refine ⟨_, rfl, ?_⟩; have n0_ := Aside0.mk (Kd.V_below (by (with_reducible repeat (first | apply Kd.V_alloc | apply Kd.V_drewN | apply Kd.V_drew)); exact HO487.out) hb); have n1_ := Aside0.mk (blk_below (g := gb467) (o := .cells #[.int .i64 t457, .int .i64 t458, .bool t459, .int .i64 t460, .int .i64 t461, .int .i64 t462, .int .i64 t463, .int .i64 t464, .int .i64 t465, .string t466] 32 (0, 0)) pq_ hb); have n2_ := Aside0.mk (blk_below (g := gb484) (o := .cells #[.int .i64 t473, .int .i64 t474, .bool t475, .int .i64 t476, .int .i64 t477, .int .i64 t478, .int .i64 t479, .int .i64 t480, .int .i64 t481, .string t482] 32 (0, 0)) pq_ hb); have n3_ := Aside0.mk (below_step (bq_ HB) hb); clear HO487; clear BK467; clear BK484; clear HB; have HO487 := n0_; have BK467 := n1_; have BK484 := n2_; have HB := n3_; clear n0_ n1_ n2_ n3_; (try clear hb); (try clear hb2); (try clear hk); (try clear hi)) | ((with_reducible refine gate_dst (N := 14) rfl ?_); refine be_ 14 32 (#[.int .i64 0, .int .i64 0, .bool false, .int .i64 0, .int .i64 0, .int .i64 0, .int .i64 0, .int .i64 0, .int .i64 0, .string (⟨#[]⟩ : ByteArray)]) ?_; intro gb502 hg w49 hbox hb; have n0_ := Aside0.mk (Kd.V_below (Kd.V_elderB (by (with_reducible repeat (first | apply Kd.V_alloc | apply Kd.V_drewN | apply Kd.V_drew)); exact HO487.out) gb502 (Nat.le_of_eq hg.symm)) hb); have n1_ := Aside0.mk (blk_below (g := gb467) (o := .cells #[.int .i64 t457, .int .i64 t458, .bool t459, .int .i64 t460, .int .i64 t461, .int .i64 t462, .int .i64 t463, .int .i64 t464, .int .i64 t465, .string t466] 32 (0, 0)) pq_ hb); have n2_ := Aside0.mk (blk_below (g := gb484) (o := .cells #[.int .i64 t473, .int .i64 t474, .bool t475, .int .i64 t476, .int .i64 t477, .int .i64 t478, .int .i64 t479, .int .i64 t480, .int .i64 t481, .string t482] 32 (0, 0)) pq_ hb); have n3_ := Aside0.mk (below_step (bq_ HB) hb); have n4_ := Aside0.mk (hbox); have n5_ := Aside0.mk ((by rw [hg]; exact (below_size (bq_ HB)) : w.heap.size ≤ gb502)); have n6_ := Aside0.mk ((by rw [hg]; exact (below_size (bq_ HB)) : w.heap.size ≤ gb502)); have n7_ := Aside0.mk ((by rw [hg]; exact Nat.ne_of_lt (blk_lt (g := gb467) (o := .cells #[.int .i64 t457, .int .i64 t458, .bool t459, .int .i64 t460, .int .i64 t461, .int .i64 t462, .int .i64 t463, .int .i64 t464, .int .i64 t465, .string t466] 32 (0, 0)) pq_) : gb467 ≠ gb502)); have n8_ := Aside0.mk ((by rw [hg]; exact Nat.ne_of_gt (blk_lt (g := gb467) (o := .cells #[.int .i64 t457, .int .i64 t458, .bool t459, .int .i64 t460, .int .i64 t461, .int .i64 t462, .int .i64 t463, .int .i64 t464, .int .i64 t465, .string t466] 32 (0, 0)) pq_) : gb502 ≠ gb467)); have n9_ := Aside0.mk ((by rw [hg]; exact Nat.ne_of_lt (blk_lt (g := gb484) (o := .cells #[.int .i64 t473, .int .i64 t474, .bool t475, .int .i64 t476, .int .i64 t477, .int .i64 t478, .int .i64 t479, .int .i64 t480, .int .i64 t481, .string t482] 32 (0, 0)) pq_) : gb484 ≠ gb502)); have n10_ := Aside0.mk ((by rw [hg]; exact Nat.ne_of_gt (blk_lt (g := gb484) (o := .cells #[.int .i64 t473, .int .i64 t474, .bool t475, .int .i64 t476, .int .i64 t477, .int .i64 t478, .int .i64 t479, .int .i64 t480, .int .i64 t481, .string t482] 32 (0, 0)) pq_) : gb502 ≠ gb484)); clear HO487; clear BK467; clear BK484; clear HB; have HO487 := n0_; have BK467 := n1_; have BK484 := n2_; have HB := n3_; have BK502 := n4_; have GW502 := n5_; have GE502 := n6_; have NB467_502 := n7_; have NB502_467 := n8_; have NB484_502 := n9_; have NB502_484 := n10_; clear n0_ n1_ n2_ n3_ n4_ n5_ n6_ n7_ n8_ n9_ n10_; clear hb hbox hg; have hnb50 := NB502_467.out; have hnc50 := NB467_502.out; have hnb51 := NB502_484.out; have hnc51 := NB484_502.out; obtain ⟨hcz52_0, hcz52_1, hcz52_2, hcz52_3, hcz52_4, hcz52_5, hcz52_6, hcz52_7, hcz52_8, hcz52_9, hfz52_0, hfz52_1, hfz52_2, hfz52_3, hfz52_4, hfz52_5, hfz52_6, hfz52_7, hfz52_8, hfz52_9⟩ := cf10 BK502.out)); go_ret; exact ⟨by first | rfl | (simp [errW_none, errW_some] <;> rfl) | (simp only [← hji36]; first | rfl | (simp [errW_none, errW_some] <;> rfl)) | (simp [*, errW_none, errW_some] <;> rfl), bq_ HB⟩
              ·replace c41 := Bool.eq_false_iff.mpr c41; subst c41; have H1 : (laws_FnBundles.j2 kj22 l1) = some r := by rw [if_neg (show ¬ (false = true) by decide)] at H; exact H
               clear H; have H := H1; clear H1; have H' := Aside0.mk H; clear H; go_wp2_with (first | ((with_reducible refine gate_dst (N := 69) rfl ?_); refine Kd.V_convB _ 5 rfl (N' := 69) rfl 9 22 _ rfl t468 (by first | rfl | (go_simp; done) | (go_simp; rfl)) Try.underlying9 Try.underlying22 Try.underlying5 (od_) (ok := fun k_ => wc.heap.size ≤ k_) (Nat.le_refl _) (Below.refl _ _) (Nat.le_refl _) Ny485.out ?_; intro gocv55 cocv55 obcv55 w53 ho54 hob hfr hge hb hg_; clear hg_; have n0_ := Aside0.mk (Kd.V_lower (Kd.V_mono (ok' := fun k_ => k_ ≠ gb467 ∧ k_ ≠ gb484) ho54 (fun k_ hk_ => ⟨(Kd.freshB (g := gb467) (o := .cells #[.int .i64 t457, .int .i64 t458, .bool t459, .int .i64 t460, .int .i64 t461, .int .i64 t462, .int .i64 t463, .int .i64 t464, .int .i64 t465, .string t466] 32 (0, 0)) pq_ k_ hk_), (Kd.freshB (g := gb484) (o := .cells #[.int .i64 t473, .int .i64 t474, .bool t475, .int .i64 t476, .int .i64 t477, .int .i64 t478, .int .i64 t479, .int .i64 t480, .int .i64 t481, .string t482] 32 (0, 0)) pq_ k_ hk_)⟩)) (below_size (bq_ HB))); have n1_ := Aside0.mk (blk_below (g := gb467) (o := .cells #[.int .i64 t457, .int .i64 t458, .bool t459, .int .i64 t460, .int .i64 t461, .int .i64 t462, .int .i64 t463, .int .i64 t464, .int .i64 t465, .string t466] 32 (0, 0)) pq_ hb); have n2_ := Aside0.mk (blk_below (g := gb484) (o := .cells #[.int .i64 t473, .int .i64 t474, .bool t475, .int .i64 t476, .int .i64 t477, .int .i64 t478, .int .i64 t479, .int .i64 t480, .int .i64 t481, .string t482] 32 (0, 0)) pq_ hb); have n3_ := Aside0.mk (below_step (bq_ HB) hb); have n4_ := Aside0.mk (hob); have n5_ := Aside0.mk (hfr); have n6_ := Aside0.mk ((by rw [hge]; exact (below_size (bq_ HB)) : w.heap.size ≤ gocv55)); have n7_ := Aside0.mk ((by rw [hge]; exact (below_size (bq_ HB)) : w.heap.size ≤ gocv55)); have n8_ := Aside0.mk ((by rw [hge]; exact (below_size (bq_ HB)) : w.heap.size ≤ gocv55)); have n9_ := Aside0.mk ((by rw [hge]; exact Nat.ne_of_lt (blk_lt (g := gb467) (o := .cells #[.int .i64 t457, .int .i64 t458, .bool t459, .int .i64 t460, .int .i64 t461, .int .i64 t462, .int .i64 t463, .int .i64 t464, .int .i64 t465, .string t466] 32 (0, 0)) pq_) : gb467 ≠ gocv55)); have n10_ := Aside0.mk ((by rw [hge]; exact Nat.ne_of_gt (blk_lt (g := gb467) (o := .cells #[.int .i64 t457, .int .i64 t458, .bool t459, .int .i64 t460, .int .i64 t461, .int .i64 t462, .int .i64 t463, .int .i64 t464, .int .i64 t465, .string t466] 32 (0, 0)) pq_) : gocv55 ≠ gb467)); have n11_ := Aside0.mk ((by rw [hge]; exact Nat.ne_of_lt (blk_lt (g := gb484) (o := .cells #[.int .i64 t473, .int .i64 t474, .bool t475, .int .i64 t476, .int .i64 t477, .int .i64 t478, .int .i64 t479, .int .i64 t480, .int .i64 t481, .string t482] 32 (0, 0)) pq_) : gb484 ≠ gocv55)); have n12_ := Aside0.mk ((by rw [hge]; exact Nat.ne_of_gt (blk_lt (g := gb484) (o := .cells #[.int .i64 t473, .int .i64 t474, .bool t475, .int .i64 t476, .int .i64 t477, .int .i64 t478, .int .i64 t479, .int .i64 t480, .int .i64 t481, .string t482] 32 (0, 0)) pq_) : gocv55 ≠ gb484)); clear BK467; clear BK484; clear HB; have HO487 := n0_; have BK467 := n1_; have BK484 := n2_; have HB := n3_; have BCcv55 := n4_; have FCcv55 := n5_; have GBcv55 := n6_; have GW70069 := n7_; have GE70069 := n8_; have NB467_70069 := n9_; have NB70069_467 := n10_; have NB484_70069 := n11_; have NB70069_484 := n12_; clear n0_ n1_ n2_ n3_ n4_ n5_ n6_ n7_ n8_ n9_ n10_ n11_ n12_; clear hb ho54 hob hfr hge) | ((with_reducible refine gate_callee (f := 12) rfl ?_); refine goesL_ (some 71) rfl rfl Try.func12 (by kernel_rfl) rfl #[.slice A1 l1.length c1] rfl ma_ ?_; (with_reducible refine (laws_numberOf.calls kj22 _ _ l1 t488 _ ?side1 ?side2 A34.out).mono ?_); (case side1 => repeat (first | exact (Kd.C_below HR1.out HB.out) | with_reducible first | refine Kd.C_alloc ?_ _ | refine Kd.C_drewN ?_ _ | refine Kd.C_drew ?_)); (case side2 => exact HC1.out); rintro e w' ⟨rfl, ⟨nd, rfl⟩⟩; refine ⟨_, rfl, ?_⟩; (try (rw [drewN_self w53]; generalize hq_ : World.drewN w53 _ = w53; have n0_ : Aside0 (Kd.V (Kd.int .u8) 5 w53 w.heap.size (fun k_ => k_ ≠ gb467 ∧ k_ ≠ gb484) (.slice (some ⟨gocv55, 0, none⟩) y485.length cocv55) y485) := ⟨by rw [← hq_]; exact (by (with_reducible repeat (first | apply Kd.V_alloc | apply Kd.V_drewN | apply Kd.V_drew)); exact HO487.out)⟩; have n1_ : Aside0 (w53.heap[gocv55]? = some (obcv55)) := ⟨by rw [← hq_]; exact pq_⟩; have n2_ : Aside0 (w53.heap[gb467]? = some (.cells #[.int .i64 t457, .int .i64 t458, .bool t459, .int .i64 t460, .int .i64 t461, .int .i64 t462, .int .i64 t463, .int .i64 t464, .int .i64 t465, .string t466] 32 (0, 0))) := ⟨by rw [← hq_]; exact pq_⟩; have n3_ : Aside0 (w53.heap[gb484]? = some (.cells #[.int .i64 t473, .int .i64 t474, .bool t475, .int .i64 t476, .int .i64 t477, .int .i64 t478, .int .i64 t479, .int .i64 t480, .int .i64 t481, .string t482] 32 (0, 0))) := ⟨by rw [← hq_]; exact pq_⟩; have n4_ : Aside0 (Below w.heap.size w w53) := ⟨by rw [← hq_]; exact (bq_ HB)⟩; clear HO487 BCcv55 BK467 BK484 HB hq_; have HO487 := n0_; have BCcv55 := n1_; have BK467 := n2_; have BK484 := n3_; have HB := n4_; clear n0_ n1_ n2_ n3_ n4_)); have p489 : 0 ≤ ((ji36) : Int) := od_; have q489 : (ji36) < (y485.length : Int) := od_; obtain ⟨ad489, e489, hx489_0⟩ := Kd.at_int (Kd.V_reads' HO487.out).2.2 (ji36) p489 q489; obtain rfl : (⟨gocv55, 0, none⟩ : Addr) = ad489 := (by injection e489); (first | simp only [add_plain] at hx489_0 | simp only [add_at] at hx489_0 | simp only [Addr.add, Nat.zero_add] at hx489_0 | skip); replace p489 := eq_true p489; replace q489 := eq_true q489; have p39 : 0 ≤ ((ji36) : Int) := od_; have q39 : ((ji36) : Int) < ((y485.length : Int) : Int) := od_; obtain ⟨hx39_0, hf39_0⟩ := Kd.V_cellb 0 (HO487.out) BCcv55.out FCcv55.out ((ji36) : Int) p39 q39; replace p39 := eq_true p39; replace q39 := eq_true q39; obtain ⟨hy56_, hz56_⟩ := Kd.V_cellb 0 HO487.out BCcv55.out FCcv55.out ((ji36) : Int) (od_) (od_); have HP56 := Kd.V_putb HO487.out BCcv55.out FCcv55.out ((ji36) : Int) (od_) (by have h_ : ((ji36) : Int) < ((y485.length : Int) : Int) := od_; first | exact h_ | (have e_ := (Kd.V_reads' HO487.out).1; omega) | simpa using h_) (Go.bits .xor .u8 (rd y485 (ji36)) ((wrap64 (1 + (Int.tmod t488 255))) % 256))) | ((with_reducible refine gate_store (t := 5) (p := 84) rfl ?_); refine store_event (t := 5) (p := 84) (v := ?vo_w57) (w1 := (w53.setCell ⟨gocv55, ((ji36) : Int).toNat, none⟩ (.int .u8 (Go.bits .xor .u8 (rd y485 (ji36)) ((wrap64 (1 + (Int.tmod t488 255))) % 256))))) ?hg ?ho ?hn ?hr ?_; (case ho => rfl); (case hg => rfl); (case hn => rfl); (case hr => first | (go_simp; done) | (go_simp; rfl)); intro w57 hw; have hg : w53.grownBy w57 (some gocv55) := (by rw [hw]; exact HP56.2); have hp_ : Kd.V (Kd.int .u8) 5 w57 w.heap.size (fun k_ => k_ ≠ gb467 ∧ k_ ≠ gb484) (.slice (some ⟨gocv55, 0, none⟩) y485.length cocv55) y490 := (by rw [hw, Ny490.out]; exact HP56.1); clear HP56; have n0_ := Aside0.mk (blk_grown (g := gb467) (o := .cells #[.int .i64 t457, .int .i64 t458, .bool t459, .int .i64 t460, .int .i64 t461, .int .i64 t462, .int .i64 t463, .int .i64 t464, .int .i64 t465, .string t466] 32 (0, 0)) pq_ hg (fun e_ => NB467_70069.out (Option.some.inj e_))); have n1_ := Aside0.mk (blk_grown (g := gb484) (o := .cells #[.int .i64 t473, .int .i64 t474, .bool t475, .int .i64 t476, .int .i64 t477, .int .i64 t478, .int .i64 t479, .int .i64 t480, .int .i64 t481, .string t482] 32 (0, 0)) pq_ hg (fun e_ => NB484_70069.out (Option.some.inj e_))); have n2_ := Aside0.mk (hp_); have n3_ := Aside0.mk ((by rw [hw]; exact below_set (HB.out) GBcv55.out : Below w.heap.size w w57)); clear BK467; clear BK484; clear HO487; clear HB; clear BCcv55; have BK467 := n0_; have BK484 := n1_; have HO487 := n2_; have HB := n3_; clear n0_ n1_ n2_ n3_; clear hg hw hp_; have hcv58 := Kd.C_string (P := Try.prog) (A := some ⟨gocv55, 0, none⟩) (c := cocv55) Try.underlying22 Try.underlying5 Try.underlying9 (Kd.V_reads' HO487.out).2.2; rw [← (Kd.V_reads' HO487.out).1] at hcv58) | ((with_reducible refine gate_callee (f := 20) rfl ?_); refine goesL_ (some 88) rfl rfl Try.func20 (by kernel_rfl) rfl #[.string (strOfNums y490)] rfl ma_ ?_; (with_reducible refine (impl_ReadBundle.calls kj22 (strOfNums y490) t491 t492 t493 t494 t495 t496 t497 t498 t499 t500 false _ A40.out).mono ?_); rintro e w59 ⟨rfl, hb⟩; refine ⟨_, rfl, ?_⟩; have n0_ := Aside0.mk (Kd.V_below (by (with_reducible repeat (first | apply Kd.V_alloc | apply Kd.V_drewN | apply Kd.V_drew)); exact HO487.out) hb); have n1_ := Aside0.mk (blk_below (g := gb467) (o := .cells #[.int .i64 t457, .int .i64 t458, .bool t459, .int .i64 t460, .int .i64 t461, .int .i64 t462, .int .i64 t463, .int .i64 t464, .int .i64 t465, .string t466] 32 (0, 0)) pq_ hb); have n2_ := Aside0.mk (blk_below (g := gb484) (o := .cells #[.int .i64 t473, .int .i64 t474, .bool t475, .int .i64 t476, .int .i64 t477, .int .i64 t478, .int .i64 t479, .int .i64 t480, .int .i64 t481, .string t482] 32 (0, 0)) pq_ hb); have n3_ := Aside0.mk (below_step (bq_ HB) hb); clear HO487; clear BK467; clear BK484; clear HB; have HO487 := n0_; have BK467 := n1_; have BK484 := n2_; have HB := n3_; clear n0_ n1_ n2_ n3_; (try clear hb); (try clear hb2); (try clear hk); (try clear hi)) | ((with_reducible refine gate_dst (N := 14) rfl ?_); refine be_ 14 32 (#[.int .i64 0, .int .i64 0, .bool false, .int .i64 0, .int .i64 0, .int .i64 0, .int .i64 0, .int .i64 0, .int .i64 0, .string (⟨#[]⟩ : ByteArray)]) ?_; intro gb502 hg w60 hbox hb; have n0_ := Aside0.mk (Kd.V_below (Kd.V_elderB (by (with_reducible repeat (first | apply Kd.V_alloc | apply Kd.V_drewN | apply Kd.V_drew)); exact HO487.out) gb502 (Nat.le_of_eq hg.symm)) hb); have n1_ := Aside0.mk (blk_below (g := gb467) (o := .cells #[.int .i64 t457, .int .i64 t458, .bool t459, .int .i64 t460, .int .i64 t461, .int .i64 t462, .int .i64 t463, .int .i64 t464, .int .i64 t465, .string t466] 32 (0, 0)) pq_ hb); have n2_ := Aside0.mk (blk_below (g := gb484) (o := .cells #[.int .i64 t473, .int .i64 t474, .bool t475, .int .i64 t476, .int .i64 t477, .int .i64 t478, .int .i64 t479, .int .i64 t480, .int .i64 t481, .string t482] 32 (0, 0)) pq_ hb); have n3_ := Aside0.mk (below_step (bq_ HB) hb); have n4_ := Aside0.mk (hbox); have n5_ := Aside0.mk ((by rw [hg]; exact (below_size (bq_ HB)) : w.heap.size ≤ gb502)); have n6_ := Aside0.mk ((by rw [hg]; exact (below_size (bq_ HB)) : w.heap.size ≤ gb502)); have n7_ := Aside0.mk ((by rw [hg]; exact Nat.ne_of_lt (blk_lt (g := gb467) (o := .cells #[.int .i64 t457, .int .i64 t458, .bool t459, .int .i64 t460, .int .i64 t461, .int .i64 t462, .int .i64 t463, .int .i64 t464, .int .i64 t465, .string t466] 32 (0, 0)) pq_) : gb467 ≠ gb502)); have n8_ := Aside0.mk ((by rw [hg]; exact Nat.ne_of_gt (blk_lt (g := gb467) (o := .cells #[.int .i64 t457, .int .i64 t458, .bool t459, .int .i64 t460, .int .i64 t461, .int .i64 t462, .int .i64 t463, .int .i64 t464, .int .i64 t465, .string t466] 32 (0, 0)) pq_) : gb502 ≠ gb467)); have n9_ := Aside0.mk ((by rw [hg]; exact Nat.ne_of_lt (blk_lt (g := gb484) (o := .cells #[.int .i64 t473, .int .i64 t474, .bool t475, .int .i64 t476, .int .i64 t477, .int .i64 t478, .int .i64 t479, .int .i64 t480, .int .i64 t481, .string t482] 32 (0, 0)) pq_) : gb484 ≠ gb502)); have n10_ := Aside0.mk ((by rw [hg]; exact Nat.ne_of_gt (blk_lt (g := gb484) (o := .cells #[.int .i64 t473, .int .i64 t474, .bool t475, .int .i64 t476, .int .i64 t477, .int .i64 t478, .int .i64 t479, .int .i64 t480, .int .i64 t481, .string t482] 32 (0, 0)) pq_) : gb502 ≠ gb484)); clear HO487; clear BK467; clear BK484; clear HB; have HO487 := n0_; have BK467 := n1_; have BK484 := n2_; have HB := n3_; have BK502 := n4_; have GW502 := n5_; have GE502 := n6_; have NB467_502 := n7_; have NB502_467 := n8_; have NB484_502 := n9_; have NB502_484 := n10_; clear n0_ n1_ n2_ n3_ n4_ n5_ n6_ n7_ n8_ n9_ n10_; clear hb hbox hg; have hnb61 := NB502_467.out; have hnc61 := NB467_502.out; have hnb62 := NB502_484.out; have hnc62 := NB484_502.out; obtain ⟨hcz63_0, hcz63_1, hcz63_2, hcz63_3, hcz63_4, hcz63_5, hcz63_6, hcz63_7, hcz63_8, hcz63_9, hfz63_0, hfz63_1, hfz63_2, hfz63_3, hfz63_4, hfz63_5, hfz63_6, hfz63_7, hfz63_8, hfz63_9⟩ := cf10 BK502.out)); go_meet
               case rel => exact ⟨_, H', ⟨by have := HJ6.out; have := HJ22.out; first | omega | exact Nat.le_refl _⟩, ⟨by (with_reducible repeat (first | refine blk_drewN ?_ _ | refine blk_drew ?_ | refine blk_alloc ?_ _)); (iterate 10 refine blk_far ?_ NB467_502.out _); (with_reducible repeat (first | refine blk_drewN ?_ _ | refine blk_drew ?_ | refine blk_alloc ?_ _)); exact BK467.out⟩, ⟨bq_ HB⟩⟩
             ·rw [if_neg c38] at H; exact no_ H
            ·rw [if_neg c37] at H; exact no_ H
          ·rw [if_neg c33] at H; exact no_ H
      ·replace c21 := Bool.eq_false_iff.mpr c21; subst c21; have H1 : (laws_FnBundles.j2 kj6 l1) = some r := by rw [if_neg (show ¬ (false = true) by decide)] at H; exact H
       clear H; have H := H1; clear H1; have H' := Aside0.mk H; clear H; go_wp2; go_meet
       case rel => exact ⟨_, H', ⟨by have := HJ6.out; first | omega | exact Nat.le_refl _⟩, ⟨pq_⟩, ⟨bq_ HB⟩⟩
     case rest =>
      clear HC20; try clear c1
      try clear c2
      try clear p2
      try clear c3
      try clear c3b0
      try clear p3
      try clear q3
      try clear hx3
      try clear hf3
      try clear c4
      try clear p4
      try clear q4
      try clear hx4
      try clear hcv4
      try clear c5
      try clear hcv5
      try clear c6
      try clear p6
      try clear c12
      try clear c14
      try clear c14b0
      try clear c14b1
      try clear c14b2
      try clear c15
      try clear c15b0
      try clear c15b1
      try clear c16
      try clear c17
      try clear c18
      try clear c19
      try clear c20
      try clear c21
      try clear c26
      try clear c28
      try clear c29
      try clear c32
      try clear c33
      try clear c33b0
      try clear c33b1
      try clear c33b2
      try clear c35
      try clear c35b0
      try clear c35b1
      try clear c35b2
      try clear c37
      try clear c37b0
      try clear c38
      try clear c38b0
      try clear p39
      try clear q39
      try clear hx39
      try clear hf39
      try clear c41
      try clear hcv47
      try clear p48
      try clear q48
      try clear hx48
      try clear c50
      try clear c51
      try clear hcv58
      try clear c61
      try clear c62
      try clear hcz10_0
      try clear hcz10_1
      try clear hcz10_2
      try clear hcz10_3
      try clear hcz10_4
      try clear hcz10_5
      try clear hcz10_6
      try clear hcz10_7
      try clear hcz10_8
      try clear hcz10_9
      try clear hcz12_0
      try clear hcz12_1
      try clear hcz12_2
      try clear hcz12_3
      try clear hcz12_4
      try clear hcz12_5
      try clear hcz12_6
      try clear hcz12_7
      try clear hcz12_8
      try clear hcz12_9
      try clear hcz17_0
      try clear hcz17_1
      try clear hcz17_2
      try clear hcz17_3
      try clear hcz17_4
      try clear hcz17_5
      try clear hcz17_6
      try clear hcz17_7
      try clear hcz17_8
      try clear hcz17_9
      try clear hcz27_0
      try clear hcz27_1
      try clear hcz27_2
      try clear hcz27_3
      try clear hcz27_4
      try clear hcz27_5
      try clear hcz27_6
      try clear hcz27_7
      try clear hcz27_8
      try clear hcz27_9
      try clear hcz30_0
      try clear hcz30_1
      try clear hcz30_2
      try clear hcz30_3
      try clear hcz30_4
      try clear hcz30_5
      try clear hcz30_6
      try clear hcz30_7
      try clear hcz30_8
      try clear hcz30_9
      try clear hcz31_0
      try clear hcz31_1
      try clear hcz31_2
      try clear hcz31_3
      try clear hcz31_4
      try clear hcz31_5
      try clear hcz31_6
      try clear hcz31_7
      try clear hcz31_8
      try clear hcz31_9
      try clear hcz52_0
      try clear hcz52_1
      try clear hcz52_2
      try clear hcz52_3
      try clear hcz52_4
      try clear hcz52_5
      try clear hcz52_6
      try clear hcz52_7
      try clear hcz52_8
      try clear hcz52_9
      try clear hcz63_0
      try clear hcz63_1
      try clear hcz63_2
      try clear hcz63_3
      try clear hcz63_4
      try clear hcz63_5
      try clear hcz63_6
      try clear hcz63_7
      try clear hcz63_8
      try clear hcz63_9
      try clear hfz10_0
      try clear hfz10_1
      try clear hfz10_2
      try clear hfz10_3
      try clear hfz10_4
      try clear hfz10_5
      try clear hfz10_6
      try clear hfz10_7
      try clear hfz10_8
      try clear hfz10_9
      try clear hfz12_0
      try clear hfz12_1
      try clear hfz12_2
      try clear hfz12_3
      try clear hfz12_4
      try clear hfz12_5
      try clear hfz12_6
      try clear hfz12_7
      try clear hfz12_8
      try clear hfz12_9
      try clear hfz17_0
      try clear hfz17_1
      try clear hfz17_2
      try clear hfz17_3
      try clear hfz17_4
      try clear hfz17_5
      try clear hfz17_6
      try clear hfz17_7
      try clear hfz17_8
      try clear hfz17_9
      try clear hfz27_0
      try clear hfz27_1
      try clear hfz27_2
      try clear hfz27_3
      try clear hfz27_4
      try clear hfz27_5
      try clear hfz27_6
      try clear hfz27_7
      try clear hfz27_8
      try clear hfz27_9
      try clear hfz30_0
      try clear hfz30_1
      try clear hfz30_2
      try clear hfz30_3
      try clear hfz30_4
      try clear hfz30_5
      try clear hfz30_6
      try clear hfz30_7
      try clear hfz30_8
      try clear hfz30_9
      try clear hfz31_0
      try clear hfz31_1
      try clear hfz31_2
      try clear hfz31_3
      try clear hfz31_4
      try clear hfz31_5
      try clear hfz31_6
      try clear hfz31_7
      try clear hfz31_8
      try clear hfz31_9
      try clear hfz52_0
      try clear hfz52_1
      try clear hfz52_2
      try clear hfz52_3
      try clear hfz52_4
      try clear hfz52_5
      try clear hfz52_6
      try clear hfz52_7
      try clear hfz52_8
      try clear hfz52_9
      try clear hfz63_0
      try clear hfz63_1
      try clear hfz63_2
      try clear hfz63_3
      try clear hfz63_4
      try clear hfz63_5
      try clear hfz63_6
      try clear hfz63_7
      try clear hfz63_8
      try clear hfz63_9
      try clear hx39_0
      try clear hx489_0
      try clear p2
      try clear p39
      try clear p489
      try clear p6
      try clear q39
      try clear q489
      obtain ⟨kq, HA, HJ19, BK467, HB⟩ := hcut; cases kq with
      | zero => exact absurd HA.out (by simp [laws_FnBundles.j2])
      | succ kj19 =>
       have H := HA.out; clear HA; simp only [laws_FnBundles.j2] at H; replace H := Option.bind_eq_some_iff.mp H; obtain ⟨t503, A640, H⟩ := H; replace H : ((impl_ReadBundle.f kj19 t503).bind fun bt504 => ((spec_ReadBundle.f kj19 t503).bind fun bt516 => (if (bt504.2.2.2.2.2.2.2.2.2.2 != bt516.2.2.2.2.2.2.2.2.2.2) = true then (some false) else (if (!(bt504.1 == bt516.1) || (!(bt504.2.1 == bt516.2.1) || (!(bt504.2.2.1 == bt516.2.2.1) || (!(bt504.2.2.2.1 == bt516.2.2.2.1) || (!(bt504.2.2.2.2.1 == bt516.2.2.2.2.1) || (!(bt504.2.2.2.2.2.1 == bt516.2.2.2.2.2.1) || (!(bt504.2.2.2.2.2.2.1 == bt516.2.2.2.2.2.2.1) || (!(bt504.2.2.2.2.2.2.2.1 == bt516.2.2.2.2.2.2.2.1) || (!(bt504.2.2.2.2.2.2.2.2.1 == bt516.2.2.2.2.2.2.2.2.1) || (!(bt504.2.2.2.2.2.2.2.2.2.1.toList == bt516.2.2.2.2.2.2.2.2.2.1.toList))))))))))) = true then (some false) else ((impl_BundleBytes.f kj19 bt504.1 bt504.2.1 bt504.2.2.1 bt504.2.2.2.1 bt504.2.2.2.2.1 bt504.2.2.2.2.2.1 bt504.2.2.2.2.2.2.1 bt504.2.2.2.2.2.2.2.1 bt504.2.2.2.2.2.2.2.2.1 bt504.2.2.2.2.2.2.2.2.2.1).bind fun bt528 => (if bt504.2.2.2.2.2.2.2.2.2.2 = true then (if bt528.2 = true then (some (bt528.1.toList == t503.toList)) else (some false)) else (some true))))))) = some r := H; have A64 := Aside0.mk A640; clear A640; replace H := Option.bind_eq_some_iff.mp H; obtain ⟨⟨t504, t505, t506, t507, t508, t509, t510, t511, t512, t513, t514⟩, A650, H⟩ := H; replace H : ((spec_ReadBundle.f kj19 t503).bind fun bt516 => (if (t514 != bt516.2.2.2.2.2.2.2.2.2.2) = true then (some false) else (if (!(t504 == bt516.1) || (!(t505 == bt516.2.1) || (!(t506 == bt516.2.2.1) || (!(t507 == bt516.2.2.2.1) || (!(t508 == bt516.2.2.2.2.1) || (!(t509 == bt516.2.2.2.2.2.1) || (!(t510 == bt516.2.2.2.2.2.2.1) || (!(t511 == bt516.2.2.2.2.2.2.2.1) || (!(t512 == bt516.2.2.2.2.2.2.2.2.1) || (!(t513.toList == bt516.2.2.2.2.2.2.2.2.2.1.toList))))))))))) = true then (some false) else ((impl_BundleBytes.f kj19 t504 t505 t506 t507 t508 t509 t510 t511 t512 t513).bind fun bt528 => (if t514 = true then (if bt528.2 = true then (some (bt528.1.toList == t503.toList)) else (some false)) else (some true)))))) = some r := H; have A65 := Aside0.mk A650; clear A650; replace H := Option.bind_eq_some_iff.mp H; obtain ⟨⟨t516, t517, t518, t519, t520, t521, t522, t523, t524, t525, t526⟩, A660, H⟩ := H; replace H : (if (t514 != t526) = true then (some false) else (if (!(t504 == t516) || (!(t505 == t517) || (!(t506 == t518) || (!(t507 == t519) || (!(t508 == t520) || (!(t509 == t521) || (!(t510 == t522) || (!(t511 == t523) || (!(t512 == t524) || (!(t513.toList == t525.toList))))))))))) = true then (some false) else ((impl_BundleBytes.f kj19 t504 t505 t506 t507 t508 t509 t510 t511 t512 t513).bind fun bt528 => (if t514 = true then (if bt528.2 = true then (some (bt528.1.toList == t503.toList)) else (some false)) else (some true))))) = some r := H; have A66 := Aside0.mk A660; clear A660; by_cases c67 : (t514 != t526) = true
       ·rw [if_pos c67] at H; have c67b0 : (t514 != t526) = true := c67; (try (have c67b1 : decide (t514 = t526) = false := by simpa using c67)); (try (have c67b2 : (t514 == t526) = false := by simpa using c67)); (try (have c67b3 : ¬ (t514 = t526) := by simpa using c67)); clear c67; obtain rfl := Option.some.inj H; go_wp2_with (first | ((with_reducible refine gate_callee (f := 21) rfl ?_); refine goesL_ (some 93) rfl rfl Try.func21 (by kernel_rfl) rfl #[.slice A1 l1.length c1] rfl ma_ ?_; (with_reducible refine (spec_DrawReadBundle.calls kj19 _ _ l1 t503 _ ?side1 ?side2 A64.out).mono ?_); (case side1 => repeat (first | exact (Kd.C_below HR1.out HB.out) | with_reducible first | refine Kd.C_alloc ?_ _ | refine Kd.C_drewN ?_ _ | refine Kd.C_drew ?_)); (case side2 => exact HC1.out); rintro e w68 ⟨rfl, hb⟩; refine ⟨_, rfl, ?_⟩; have n0_ := Aside0.mk (blk_below (g := gb467) (o := .cells #[.int .i64 t457, .int .i64 t458, .bool t459, .int .i64 t460, .int .i64 t461, .int .i64 t462, .int .i64 t463, .int .i64 t464, .int .i64 t465, .string t466] 32 (0, 0)) pq_ hb); have n1_ := Aside0.mk (below_step (bq_ HB) hb); clear BK467; clear HB; have BK467 := n0_; have HB := n1_; clear n0_ n1_; (try clear hb); (try clear hb2); (try clear hk); (try clear hi)) | ((with_reducible refine gate_callee (f := 20) rfl ?_); refine goesL_ (some 96) rfl rfl Try.func20 (by kernel_rfl) rfl #[.string t503] rfl ma_ ?_; (with_reducible refine (impl_ReadBundle.calls kj19 t503 t504 t505 t506 t507 t508 t509 t510 t511 t512 t513 t514 _ A65.out).mono ?_); rintro e w69 ⟨rfl, hb⟩; refine ⟨_, rfl, ?_⟩; have n0_ := Aside0.mk (blk_below (g := gb467) (o := .cells #[.int .i64 t457, .int .i64 t458, .bool t459, .int .i64 t460, .int .i64 t461, .int .i64 t462, .int .i64 t463, .int .i64 t464, .int .i64 t465, .string t466] 32 (0, 0)) pq_ hb); have n1_ := Aside0.mk (below_step (bq_ HB) hb); clear BK467; clear HB; have BK467 := n0_; have HB := n1_; clear n0_ n1_; (try clear hb); (try clear hb2); (try clear hk); (try clear hi)) | ((with_reducible refine gate_dst (N := 17) rfl ?_); refine be_ 17 32 (#[.int .i64 0, .int .i64 0, .bool false, .int .i64 0, .int .i64 0, .int .i64 0, .int .i64 0, .int .i64 0, .int .i64 0, .string (⟨#[]⟩ : ByteArray)]) ?_; intro gb515 hg w70 hbox hb; have n0_ := Aside0.mk (blk_below (g := gb467) (o := .cells #[.int .i64 t457, .int .i64 t458, .bool t459, .int .i64 t460, .int .i64 t461, .int .i64 t462, .int .i64 t463, .int .i64 t464, .int .i64 t465, .string t466] 32 (0, 0)) pq_ hb); have n1_ := Aside0.mk (below_step (bq_ HB) hb); have n2_ := Aside0.mk (hbox); have n3_ := Aside0.mk ((by rw [hg]; exact (below_size (bq_ HB)) : w.heap.size ≤ gb515)); have n4_ := Aside0.mk ((by rw [hg]; exact (below_size (bq_ HB)) : w.heap.size ≤ gb515)); have n5_ := Aside0.mk ((by rw [hg]; exact Nat.ne_of_lt (blk_lt (g := gb467) (o := .cells #[.int .i64 t457, .int .i64 t458, .bool t459, .int .i64 t460, .int .i64 t461, .int .i64 t462, .int .i64 t463, .int .i64 t464, .int .i64 t465, .string t466] 32 (0, 0)) pq_) : gb467 ≠ gb515)); have n6_ := Aside0.mk ((by rw [hg]; exact Nat.ne_of_gt (blk_lt (g := gb467) (o := .cells #[.int .i64 t457, .int .i64 t458, .bool t459, .int .i64 t460, .int .i64 t461, .int .i64 t462, .int .i64 t463, .int .i64 t464, .int .i64 t465, .string t466] 32 (0, 0)) pq_) : gb515 ≠ gb467)); clear BK467; clear HB; have BK467 := n0_; have HB := n1_; have BK515 := n2_; have GW515 := n3_; have GE515 := n4_; have NB467_515 := n5_; have NB515_467 := n6_; clear n0_ n1_ n2_ n3_ n4_ n5_ n6_; clear hb hbox hg; have hnb71 := NB515_467.out; have hnc71 := NB467_515.out; obtain ⟨hcz72_0, hcz72_1, hcz72_2, hcz72_3, hcz72_4, hcz72_5, hcz72_6, hcz72_7, hcz72_8, hcz72_9, hfz72_0, hfz72_1, hfz72_2, hfz72_3, hfz72_4, hfz72_5, hfz72_6, hfz72_7, hfz72_8, hfz72_9⟩ := cf10 BK515.out) | ((with_reducible refine gate_callee (f := 22) rfl ?_); refine goesL_ (some 101) rfl rfl Try.func22 (by kernel_rfl) rfl #[.string t503] rfl ma_ ?_; (with_reducible refine (spec_ReadBundle.calls kj19 t503 t516 t517 t518 t519 t520 t521 t522 t523 t524 t525 t526 _ A66.out).mono ?_); rintro e w73 ⟨rfl, hb⟩; refine ⟨_, rfl, ?_⟩; have n0_ := Aside0.mk (blk_below (g := gb467) (o := .cells #[.int .i64 t457, .int .i64 t458, .bool t459, .int .i64 t460, .int .i64 t461, .int .i64 t462, .int .i64 t463, .int .i64 t464, .int .i64 t465, .string t466] 32 (0, 0)) pf10_ hb); have n1_ := Aside0.mk (blk_below (g := gb515) (o := .cells #[.int .i64 t504, .int .i64 t505, .bool t506, .int .i64 t507, .int .i64 t508, .int .i64 t509, .int .i64 t510, .int .i64 t511, .int .i64 t512, .string t513] 32 (0, 0)) pb10_ hb); have n2_ := Aside0.mk (below_step (bq_ HB) hb); clear BK467; clear BK515; clear HB; have BK467 := n0_; have BK515 := n1_; have HB := n2_; clear n0_ n1_ n2_; (try clear hb); (try clear hb2); (try clear hk); (try clear hi)) | ((with_reducible refine gate_dst (N := 19) rfl ?_); refine be_ 19 32 (#[.int .i64 0, .int .i64 0, .bool false, .int .i64 0, .int .i64 0, .int .i64 0, .int .i64 0, .int .i64 0, .int .i64 0, .string (⟨#[]⟩ : ByteArray)]) ?_; intro gb527 hg w74 hbox hb; have n0_ := Aside0.mk (blk_below (g := gb467) (o := .cells #[.int .i64 t457, .int .i64 t458, .bool t459, .int .i64 t460, .int .i64 t461, .int .i64 t462, .int .i64 t463, .int .i64 t464, .int .i64 t465, .string t466] 32 (0, 0)) pq_ hb); have n1_ := Aside0.mk (blk_below (g := gb515) (o := .cells #[.int .i64 t504, .int .i64 t505, .bool t506, .int .i64 t507, .int .i64 t508, .int .i64 t509, .int .i64 t510, .int .i64 t511, .int .i64 t512, .string t513] 32 (0, 0)) pq_ hb); have n2_ := Aside0.mk (below_step (bq_ HB) hb); have n3_ := Aside0.mk (hbox); have n4_ := Aside0.mk ((by rw [hg]; exact (below_size (bq_ HB)) : w.heap.size ≤ gb527)); have n5_ := Aside0.mk ((by rw [hg]; exact (below_size (bq_ HB)) : w.heap.size ≤ gb527)); have n6_ := Aside0.mk ((by rw [hg]; exact Nat.ne_of_lt (blk_lt (g := gb467) (o := .cells #[.int .i64 t457, .int .i64 t458, .bool t459, .int .i64 t460, .int .i64 t461, .int .i64 t462, .int .i64 t463, .int .i64 t464, .int .i64 t465, .string t466] 32 (0, 0)) pq_) : gb467 ≠ gb527)); have n7_ := Aside0.mk ((by rw [hg]; exact Nat.ne_of_gt (blk_lt (g := gb467) (o := .cells #[.int .i64 t457, .int .i64 t458, .bool t459, .int .i64 t460, .int .i64 t461, .int .i64 t462, .int .i64 t463, .int .i64 t464, .int .i64 t465, .string t466] 32 (0, 0)) pq_) : gb527 ≠ gb467)); have n8_ := Aside0.mk ((by rw [hg]; exact Nat.ne_of_lt (blk_lt (g := gb515) (o := .cells #[.int .i64 t504, .int .i64 t505, .bool t506, .int .i64 t507, .int .i64 t508, .int .i64 t509, .int .i64 t510, .int .i64 t511, .int .i64 t512, .string t513] 32 (0, 0)) pq_) : gb515 ≠ gb527)); have n9_ := Aside0.mk ((by rw [hg]; exact Nat.ne_of_gt (blk_lt (g := gb515) (o := .cells #[.int .i64 t504, .int .i64 t505, .bool t506, .int .i64 t507, .int .i64 t508, .int .i64 t509, .int .i64 t510, .int .i64 t511, .int .i64 t512, .string t513] 32 (0, 0)) pq_) : gb527 ≠ gb515)); clear BK467; clear BK515; clear HB; have BK467 := n0_; have BK515 := n1_; have HB := n2_; have BK527 := n3_; have GW527 := n4_; have GE527 := n5_; have NB467_527 := n6_; have NB527_467 := n7_; have NB515_527 := n8_; have NB527_515 := n9_; clear n0_ n1_ n2_ n3_ n4_ n5_ n6_ n7_ n8_ n9_; clear hb hbox hg; have hnb75 := NB527_467.out; have hnc75 := NB467_527.out; have hnb76 := NB527_515.out; have hnc76 := NB515_527.out; obtain ⟨hcz77_0, hcz77_1, hcz77_2, hcz77_3, hcz77_4, hcz77_5, hcz77_6, hcz77_7, hcz77_8, hcz77_9, hfz77_0, hfz77_1, hfz77_2, hfz77_3, hfz77_4, hfz77_5, hfz77_6, hfz77_7, hfz77_8, hfz77_9⟩ := cf10 BK527.out)); go_ret; exact ⟨er_, bq_ HB⟩
       ·rw [if_neg c67] at H; have c67b0 : (t514 != t526) = false := by simpa using c67
        (try (have c67b1 : decide (t514 = t526) = true := by simpa using c67)); (try (have c67b2 : (t514 == t526) = true := by simpa using c67)); clear c67; by_cases c78 : (!(t504 == t516) || (!(t505 == t517) || (!(t506 == t518) || (!(t507 == t519) || (!(t508 == t520) || (!(t509 == t521) || (!(t510 == t522) || (!(t511 == t523) || (!(t512 == t524) || (!(t513.toList == t525.toList))))))))))) = true
        ·rw [if_pos c78] at H; have c78b0 : (!(t504 == t516) || (!(t505 == t517) || (!(t506 == t518) || (!(t507 == t519) || (!(t508 == t520) || (!(t509 == t521) || (!(t510 == t522) || (!(t511 == t523) || (!(t512 == t524) || (!(t513.toList == t525.toList))))))))))) = true := c78; clear c78; obtain rfl := Option.some.inj H; go_wp2_with (first | ((with_reducible refine gate_callee (f := 21) rfl ?_); refine goesL_ (some 93) rfl rfl Try.func21 (by kernel_rfl) rfl #[.slice A1 l1.length c1] rfl ma_ ?_; (with_reducible refine (spec_DrawReadBundle.calls kj19 _ _ l1 t503 _ ?side1 ?side2 A64.out).mono ?_); (case side1 => repeat (first | exact (Kd.C_below HR1.out HB.out) | with_reducible first | refine Kd.C_alloc ?_ _ | refine Kd.C_drewN ?_ _ | refine Kd.C_drew ?_)); (case side2 => exact HC1.out); rintro e w79 ⟨rfl, hb⟩; refine ⟨_, rfl, ?_⟩; have n0_ := Aside0.mk (blk_below (g := gb467) (o := .cells #[.int .i64 t457, .int .i64 t458, .bool t459, .int .i64 t460, .int .i64 t461, .int .i64 t462, .int .i64 t463, .int .i64 t464, .int .i64 t465, .string t466] 32 (0, 0)) pq_ hb); have n1_ := Aside0.mk (below_step (bq_ HB) hb); clear BK467; clear HB; have BK467 := n0_; have HB := n1_; clear n0_ n1_; (try clear hb); (try clear hb2); (try clear hk); (try clear hi)) | ((with_reducible refine gate_callee (f := 20) rfl ?_); refine goesL_ (some 96) rfl rfl Try.func20 (by kernel_rfl) rfl #[.string t503] rfl ma_ ?_; (with_reducible refine (impl_ReadBundle.calls kj19 t503 t504 t505 t506 t507 t508 t509 t510 t511 t512 t513 t514 _ A65.out).mono ?_); rintro e w80 ⟨rfl, hb⟩; refine ⟨_, rfl, ?_⟩; have n0_ := Aside0.mk (blk_below (g := gb467) (o := .cells #[.int .i64 t457, .int .i64 t458, .bool t459, .int .i64 t460, .int .i64 t461, .int .i64 t462, .int .i64 t463, .int .i64 t464, .int .i64 t465, .string t466] 32 (0, 0)) pq_ hb); have n1_ := Aside0.mk (below_step (bq_ HB) hb); clear BK467; clear HB; have BK467 := n0_; have HB := n1_; clear n0_ n1_; (try clear hb); (try clear hb2); (try clear hk); (try clear hi)) | ((with_reducible refine gate_dst (N := 17) rfl ?_); refine be_ 17 32 (#[.int .i64 0, .int .i64 0, .bool false, .int .i64 0, .int .i64 0, .int .i64 0, .int .i64 0, .int .i64 0, .int .i64 0, .string (⟨#[]⟩ : ByteArray)]) ?_; intro gb515 hg w81 hbox hb; have n0_ := Aside0.mk (blk_below (g := gb467) (o := .cells #[.int .i64 t457, .int .i64 t458, .bool t459, .int .i64 t460, .int .i64 t461, .int .i64 t462, .int .i64 t463, .int .i64 t464, .int .i64 t465, .string t466] 32 (0, 0)) pq_ hb); have n1_ := Aside0.mk (below_step (bq_ HB) hb); have n2_ := Aside0.mk (hbox); have n3_ := Aside0.mk ((by rw [hg]; exact (below_size (bq_ HB)) : w.heap.size ≤ gb515)); have n4_ := Aside0.mk ((by rw [hg]; exact (below_size (bq_ HB)) : w.heap.size ≤ gb515)); have n5_ := Aside0.mk ((by rw [hg]; exact Nat.ne_of_lt (blk_lt (g := gb467) (o := .cells #[.int .i64 t457, .int .i64 t458, .bool t459, .int .i64 t460, .int .i64 t461, .int .i64 t462, .int .i64 t463, .int .i64 t464, .int .i64 t465, .string t466] 32 (0, 0)) pq_) : gb467 ≠ gb515)); have n6_ := Aside0.mk ((by rw [hg]; exact Nat.ne_of_gt (blk_lt (g := gb467) (o := .cells #[.int .i64 t457, .int .i64 t458, .bool t459, .int .i64 t460, .int .i64 t461, .int .i64 t462, .int .i64 t463, .int .i64 t464, .int .i64 t465, .string t466] 32 (0, 0)) pq_) : gb515 ≠ gb467)); clear BK467; clear HB; have BK467 := n0_; have HB := n1_; have BK515 := n2_; have GW515 := n3_; have GE515 := n4_; have NB467_515 := n5_; have NB515_467 := n6_; clear n0_ n1_ n2_ n3_ n4_ n5_ n6_; clear hb hbox hg; have hnb82 := NB515_467.out; have hnc82 := NB467_515.out; obtain ⟨hcz83_0, hcz83_1, hcz83_2, hcz83_3, hcz83_4, hcz83_5, hcz83_6, hcz83_7, hcz83_8, hcz83_9, hfz83_0, hfz83_1, hfz83_2, hfz83_3, hfz83_4, hfz83_5, hfz83_6, hfz83_7, hfz83_8, hfz83_9⟩ := cf10 BK515.out) | ((with_reducible refine gate_callee (f := 22) rfl ?_); refine goesL_ (some 101) rfl rfl Try.func22 (by kernel_rfl) rfl #[.string t503] rfl ma_ ?_; (with_reducible refine (spec_ReadBundle.calls kj19 t503 t516 t517 t518 t519 t520 t521 t522 t523 t524 t525 t526 _ A66.out).mono ?_); rintro e w84 ⟨rfl, hb⟩; refine ⟨_, rfl, ?_⟩; have n0_ := Aside0.mk (blk_below (g := gb467) (o := .cells #[.int .i64 t457, .int .i64 t458, .bool t459, .int .i64 t460, .int .i64 t461, .int .i64 t462, .int .i64 t463, .int .i64 t464, .int .i64 t465, .string t466] 32 (0, 0)) pf10_ hb); have n1_ := Aside0.mk (blk_below (g := gb515) (o := .cells #[.int .i64 t504, .int .i64 t505, .bool t506, .int .i64 t507, .int .i64 t508, .int .i64 t509, .int .i64 t510, .int .i64 t511, .int .i64 t512, .string t513] 32 (0, 0)) pb10_ hb); have n2_ := Aside0.mk (below_step (bq_ HB) hb); clear BK467; clear BK515; clear HB; have BK467 := n0_; have BK515 := n1_; have HB := n2_; clear n0_ n1_ n2_; (try clear hb); (try clear hb2); (try clear hk); (try clear hi)) | ((with_reducible refine gate_dst (N := 19) rfl ?_); refine be_ 19 32 (#[.int .i64 0, .int .i64 0, .bool false, .int .i64 0, .int .i64 0, .int .i64 0, .int .i64 0, .int .i64 0, .int .i64 0, .string (⟨#[]⟩ : ByteArray)]) ?_; intro gb527 hg w85 hbox hb; have n0_ := Aside0.mk (blk_below (g := gb467) (o := .cells #[.int .i64 t457, .int .i64 t458, .bool t459, .int .i64 t460, .int .i64 t461, .int .i64 t462, .int .i64 t463, .int .i64 t464, .int .i64 t465, .string t466] 32 (0, 0)) pq_ hb); have n1_ := Aside0.mk (blk_below (g := gb515) (o := .cells #[.int .i64 t504, .int .i64 t505, .bool t506, .int .i64 t507, .int .i64 t508, .int .i64 t509, .int .i64 t510, .int .i64 t511, .int .i64 t512, .string t513] 32 (0, 0)) pq_ hb); have n2_ := Aside0.mk (below_step (bq_ HB) hb); have n3_ := Aside0.mk (hbox); have n4_ := Aside0.mk ((by rw [hg]; exact (below_size (bq_ HB)) : w.heap.size ≤ gb527)); have n5_ := Aside0.mk ((by rw [hg]; exact (below_size (bq_ HB)) : w.heap.size ≤ gb527)); have n6_ := Aside0.mk ((by rw [hg]; exact Nat.ne_of_lt (blk_lt (g := gb467) (o := .cells #[.int .i64 t457, .int .i64 t458, .bool t459, .int .i64 t460, .int .i64 t461, .int .i64 t462, .int .i64 t463, .int .i64 t464, .int .i64 t465, .string t466] 32 (0, 0)) pq_) : gb467 ≠ gb527)); have n7_ := Aside0.mk ((by rw [hg]; exact Nat.ne_of_gt (blk_lt (g := gb467) (o := .cells #[.int .i64 t457, .int .i64 t458, .bool t459, .int .i64 t460, .int .i64 t461, .int .i64 t462, .int .i64 t463, .int .i64 t464, .int .i64 t465, .string t466] 32 (0, 0)) pq_) : gb527 ≠ gb467)); have n8_ := Aside0.mk ((by rw [hg]; exact Nat.ne_of_lt (blk_lt (g := gb515) (o := .cells #[.int .i64 t504, .int .i64 t505, .bool t506, .int .i64 t507, .int .i64 t508, .int .i64 t509, .int .i64 t510, .int .i64 t511, .int .i64 t512, .string t513] 32 (0, 0)) pq_) : gb515 ≠ gb527)); have n9_ := Aside0.mk ((by rw [hg]; exact Nat.ne_of_gt (blk_lt (g := gb515) (o := .cells #[.int .i64 t504, .int .i64 t505, .bool t506, .int .i64 t507, .int .i64 t508, .int .i64 t509, .int .i64 t510, .int .i64 t511, .int .i64 t512, .string t513] 32 (0, 0)) pq_) : gb527 ≠ gb515)); clear BK467; clear BK515; clear HB; have BK467 := n0_; have BK515 := n1_; have HB := n2_; have BK527 := n3_; have GW527 := n4_; have GE527 := n5_; have NB467_527 := n6_; have NB527_467 := n7_; have NB515_527 := n8_; have NB527_515 := n9_; clear n0_ n1_ n2_ n3_ n4_ n5_ n6_ n7_ n8_ n9_; clear hb hbox hg; have hnb86 := NB527_467.out; have hnc86 := NB467_527.out; have hnb87 := NB527_515.out; have hnc87 := NB515_527.out; obtain ⟨hcz88_0, hcz88_1, hcz88_2, hcz88_3, hcz88_4, hcz88_5, hcz88_6, hcz88_7, hcz88_8, hcz88_9, hfz88_0, hfz88_1, hfz88_2, hfz88_3, hfz88_4, hfz88_5, hfz88_6, hfz88_7, hfz88_8, hfz88_9⟩ := cf10 BK527.out; obtain ⟨hcz89_0, hcz89_1, hcz89_2, hcz89_3, hcz89_4, hcz89_5, hcz89_6, hcz89_7, hcz89_8, hcz89_9, hfz89_0, hfz89_1, hfz89_2, hfz89_3, hfz89_4, hfz89_5, hfz89_6, hfz89_7, hfz89_8, hfz89_9⟩ := cf10 BK515.out)); go_ret; exact ⟨er_, bq_ HB⟩
        ·rw [if_neg c78] at H; have c78b0 : (!(t504 == t516) || (!(t505 == t517) || (!(t506 == t518) || (!(t507 == t519) || (!(t508 == t520) || (!(t509 == t521) || (!(t510 == t522) || (!(t511 == t523) || (!(t512 == t524) || (!(t513.toList == t525.toList))))))))))) = false := by simpa using c78
         clear c78; replace H := Option.bind_eq_some_iff.mp H; obtain ⟨⟨t528, t529⟩, A900, H⟩ := H; replace H : (if t514 = true then (if t529 = true then (some (t528.toList == t503.toList)) else (some false)) else (some true)) = some r := H; have A90 := Aside0.mk A900; clear A900; by_cases c91 : t514 = true
         ·subst c91; have H1 : (if t529 = true then (some (t528.toList == t503.toList)) else (some false)) = some r := by rw [if_pos rfl] at H; exact H
          clear H; have H := H1; clear H1; by_cases c92 : t529 = true
          ·subst c92; have H1 : (some (t528.toList == t503.toList)) = some r := by rw [if_pos rfl] at H; exact H
           clear H; have H := H1; clear H1; obtain rfl := Option.some.inj H; go_wp2_with (first | ((with_reducible refine gate_callee (f := 21) rfl ?_); refine goesL_ (some 93) rfl rfl Try.func21 (by kernel_rfl) rfl #[.slice A1 l1.length c1] rfl ma_ ?_; (with_reducible refine (spec_DrawReadBundle.calls kj19 _ _ l1 t503 _ ?side1 ?side2 A64.out).mono ?_); (case side1 => repeat (first | exact (Kd.C_below HR1.out HB.out) | with_reducible first | refine Kd.C_alloc ?_ _ | refine Kd.C_drewN ?_ _ | refine Kd.C_drew ?_)); (case side2 => exact HC1.out); rintro e w93 ⟨rfl, hb⟩; refine ⟨_, rfl, ?_⟩; have n0_ := Aside0.mk (blk_below (g := gb467) (o := .cells #[.int .i64 t457, .int .i64 t458, .bool t459, .int .i64 t460, .int .i64 t461, .int .i64 t462, .int .i64 t463, .int .i64 t464, .int .i64 t465, .string t466] 32 (0, 0)) pq_ hb); have n1_ := Aside0.mk (below_step (bq_ HB) hb); clear BK467; clear HB; have BK467 := n0_; have HB := n1_; clear n0_ n1_; (try clear hb); (try clear hb2); (try clear hk); (try clear hi)) | ((with_reducible refine gate_callee (f := 20) rfl ?_); refine goesL_ (some 96) rfl rfl Try.func20 (by kernel_rfl) rfl #[.string t503] rfl ma_ ?_; (with_reducible refine (impl_ReadBundle.calls kj19 t503 t504 t505 t506 t507 t508 t509 t510 t511 t512 t513 true _ A65.out).mono ?_); rintro e w94 ⟨rfl, hb⟩; refine ⟨_, rfl, ?_⟩; have n0_ := Aside0.mk (blk_below (g := gb467) (o := .cells #[.int .i64 t457, .int .i64 t458, .bool t459, .int .i64 t460, .int .i64 t461, .int .i64 t462, .int .i64 t463, .int .i64 t464, .int .i64 t465, .string t466] 32 (0, 0)) pq_ hb); have n1_ := Aside0.mk (below_step (bq_ HB) hb); clear BK467; clear HB; have BK467 := n0_; have HB := n1_; clear n0_ n1_; (try clear hb); (try clear hb2); (try clear hk); (try clear hi)) | ((with_reducible refine gate_dst (N := 17) rfl ?_); refine be_ 17 32 (#[.int .i64 0, .int .i64 0, .bool false, .int .i64 0, .int .i64 0, .int .i64 0, .int .i64 0, .int .i64 0, .int .i64 0, .string (⟨#[]⟩ : ByteArray)]) ?_; intro gb515 hg w95 hbox hb; have n0_ := Aside0.mk (blk_below (g := gb467) (o := .cells #[.int .i64 t457, .int .i64 t458, .bool t459, .int .i64 t460, .int .i64 t461, .int .i64 t462, .int .i64 t463, .int .i64 t464, .int .i64 t465, .string t466] 32 (0, 0)) pq_ hb); have n1_ := Aside0.mk (below_step (bq_ HB) hb); have n2_ := Aside0.mk (hbox); have n3_ := Aside0.mk ((by rw [hg]; exact (below_size (bq_ HB)) : w.heap.size ≤ gb515)); have n4_ := Aside0.mk ((by rw [hg]; exact (below_size (bq_ HB)) : w.heap.size ≤ gb515)); have n5_ := Aside0.mk ((by rw [hg]; exact Nat.ne_of_lt (blk_lt (g := gb467) (o := .cells #[.int .i64 t457, .int .i64 t458, .bool t459, .int .i64 t460, .int .i64 t461, .int .i64 t462, .int .i64 t463, .int .i64 t464, .int .i64 t465, .string t466] 32 (0, 0)) pq_) : gb467 ≠ gb515)); have n6_ := Aside0.mk ((by rw [hg]; exact Nat.ne_of_gt (blk_lt (g := gb467) (o := .cells #[.int .i64 t457, .int .i64 t458, .bool t459, .int .i64 t460, .int .i64 t461, .int .i64 t462, .int .i64 t463, .int .i64 t464, .int .i64 t465, .string t466] 32 (0, 0)) pq_) : gb515 ≠ gb467)); clear BK467; clear HB; have BK467 := n0_; have HB := n1_; have BK515 := n2_; have GW515 := n3_; have GE515 := n4_; have NB467_515 := n5_; have NB515_467 := n6_; clear n0_ n1_ n2_ n3_ n4_ n5_ n6_; clear hb hbox hg; have hnb96 := NB515_467.out; have hnc96 := NB467_515.out; obtain ⟨hcz97_0, hcz97_1, hcz97_2, hcz97_3, hcz97_4, hcz97_5, hcz97_6, hcz97_7, hcz97_8, hcz97_9, hfz97_0, hfz97_1, hfz97_2, hfz97_3, hfz97_4, hfz97_5, hfz97_6, hfz97_7, hfz97_8, hfz97_9⟩ := cf10 BK515.out) | ((with_reducible refine gate_callee (f := 22) rfl ?_); refine goesL_ (some 101) rfl rfl Try.func22 (by kernel_rfl) rfl #[.string t503] rfl ma_ ?_; (with_reducible refine (spec_ReadBundle.calls kj19 t503 t516 t517 t518 t519 t520 t521 t522 t523 t524 t525 t526 _ A66.out).mono ?_); rintro e w98 ⟨rfl, hb⟩; refine ⟨_, rfl, ?_⟩; have n0_ := Aside0.mk (blk_below (g := gb467) (o := .cells #[.int .i64 t457, .int .i64 t458, .bool t459, .int .i64 t460, .int .i64 t461, .int .i64 t462, .int .i64 t463, .int .i64 t464, .int .i64 t465, .string t466] 32 (0, 0)) pf10_ hb); have n1_ := Aside0.mk (blk_below (g := gb515) (o := .cells #[.int .i64 t504, .int .i64 t505, .bool t506, .int .i64 t507, .int .i64 t508, .int .i64 t509, .int .i64 t510, .int .i64 t511, .int .i64 t512, .string t513] 32 (0, 0)) pb10_ hb); have n2_ := Aside0.mk (below_step (bq_ HB) hb); clear BK467; clear BK515; clear HB; have BK467 := n0_; have BK515 := n1_; have HB := n2_; clear n0_ n1_ n2_; (try clear hb); (try clear hb2); (try clear hk); (try clear hi)) | ((with_reducible refine gate_dst (N := 19) rfl ?_); refine be_ 19 32 (#[.int .i64 0, .int .i64 0, .bool false, .int .i64 0, .int .i64 0, .int .i64 0, .int .i64 0, .int .i64 0, .int .i64 0, .string (⟨#[]⟩ : ByteArray)]) ?_; intro gb527 hg w99 hbox hb; have n0_ := Aside0.mk (blk_below (g := gb467) (o := .cells #[.int .i64 t457, .int .i64 t458, .bool t459, .int .i64 t460, .int .i64 t461, .int .i64 t462, .int .i64 t463, .int .i64 t464, .int .i64 t465, .string t466] 32 (0, 0)) pq_ hb); have n1_ := Aside0.mk (blk_below (g := gb515) (o := .cells #[.int .i64 t504, .int .i64 t505, .bool t506, .int .i64 t507, .int .i64 t508, .int .i64 t509, .int .i64 t510, .int .i64 t511, .int .i64 t512, .string t513] 32 (0, 0)) pq_ hb); have n2_ := Aside0.mk (below_step (bq_ HB) hb); have n3_ := Aside0.mk (hbox); have n4_ := Aside0.mk ((by rw [hg]; exact (below_size (bq_ HB)) : w.heap.size ≤ gb527)); have n5_ := Aside0.mk ((by rw [hg]; exact (below_size (bq_ HB)) : w.heap.size ≤ gb527)); have n6_ := Aside0.mk ((by rw [hg]; exact Nat.ne_of_lt (blk_lt (g := gb467) (o := .cells #[.int .i64 t457, .int .i64 t458, .bool t459, .int .i64 t460, .int .i64 t461, .int .i64 t462, .int .i64 t463, .int .i64 t464, .int .i64 t465, .string t466] 32 (0, 0)) pq_) : gb467 ≠ gb527)); have n7_ := Aside0.mk ((by rw [hg]; exact Nat.ne_of_gt (blk_lt (g := gb467) (o := .cells #[.int .i64 t457, .int .i64 t458, .bool t459, .int .i64 t460, .int .i64 t461, .int .i64 t462, .int .i64 t463, .int .i64 t464, .int .i64 t465, .string t466] 32 (0, 0)) pq_) : gb527 ≠ gb467)); have n8_ := Aside0.mk ((by rw [hg]; exact Nat.ne_of_lt (blk_lt (g := gb515) (o := .cells #[.int .i64 t504, .int .i64 t505, .bool t506, .int .i64 t507, .int .i64 t508, .int .i64 t509, .int .i64 t510, .int .i64 t511, .int .i64 t512, .string t513] 32 (0, 0)) pq_) : gb515 ≠ gb527)); have n9_ := Aside0.mk ((by rw [hg]; exact Nat.ne_of_gt (blk_lt (g := gb515) (o := .cells #[.int .i64 t504, .int .i64 t505, .bool t506, .int .i64 t507, .int .i64 t508, .int .i64 t509, .int .i64 t510, .int .i64 t511, .int .i64 t512, .string t513] 32 (0, 0)) pq_) : gb527 ≠ gb515)); clear BK467; clear BK515; clear HB; have BK467 := n0_; have BK515 := n1_; have HB := n2_; have BK527 := n3_; have GW527 := n4_; have GE527 := n5_; have NB467_527 := n6_; have NB527_467 := n7_; have NB515_527 := n8_; have NB527_515 := n9_; clear n0_ n1_ n2_ n3_ n4_ n5_ n6_ n7_ n8_ n9_; clear hb hbox hg; have hnb100 := NB527_467.out; have hnc100 := NB467_527.out; have hnb101 := NB527_515.out; have hnc101 := NB515_527.out; obtain ⟨hcz102_0, hcz102_1, hcz102_2, hcz102_3, hcz102_4, hcz102_5, hcz102_6, hcz102_7, hcz102_8, hcz102_9, hfz102_0, hfz102_1, hfz102_2, hfz102_3, hfz102_4, hfz102_5, hfz102_6, hfz102_7, hfz102_8, hfz102_9⟩ := cf10 BK527.out; obtain ⟨hcz103_0, hcz103_1, hcz103_2, hcz103_3, hcz103_4, hcz103_5, hcz103_6, hcz103_7, hcz103_8, hcz103_9, hfz103_0, hfz103_1, hfz103_2, hfz103_3, hfz103_4, hfz103_5, hfz103_6, hfz103_7, hfz103_8, hfz103_9⟩ := cf10 BK515.out) | ((with_reducible refine gate_callee (f := 17) rfl ?_); refine goesL_ (some 114) rfl rfl Try.func17 (by kernel_rfl) rfl #[.agg #[.int .i64 t504, .int .i64 t505, .bool t506, .int .i64 t507, .int .i64 t508, .int .i64 t509, .int .i64 t510, .int .i64 t511, .int .i64 t512, .string t513]] rfl ma_ ?_; (with_reducible refine (impl_BundleBytes.calls kj19 t504 t505 t506 t507 t508 t509 t510 t511 t512 t513 t528 true _ A90.out).mono ?_); rintro e w104 ⟨rfl, hb⟩; refine ⟨_, rfl, ?_⟩; have n0_ := Aside0.mk (blk_below (g := gb467) (o := .cells #[.int .i64 t457, .int .i64 t458, .bool t459, .int .i64 t460, .int .i64 t461, .int .i64 t462, .int .i64 t463, .int .i64 t464, .int .i64 t465, .string t466] 32 (0, 0)) pf10_ hb); have n1_ := Aside0.mk (blk_below (g := gb515) (o := .cells #[.int .i64 t504, .int .i64 t505, .bool t506, .int .i64 t507, .int .i64 t508, .int .i64 t509, .int .i64 t510, .int .i64 t511, .int .i64 t512, .string t513] 32 (0, 0)) pf10_ hb); have n2_ := Aside0.mk (blk_below (g := gb527) (o := .cells #[.int .i64 t516, .int .i64 t517, .bool t518, .int .i64 t519, .int .i64 t520, .int .i64 t521, .int .i64 t522, .int .i64 t523, .int .i64 t524, .string t525] 32 (0, 0)) pb10_ hb); have n3_ := Aside0.mk (below_step (bq_ HB) hb); clear BK467; clear BK515; clear BK527; clear HB; have BK467 := n0_; have BK515 := n1_; have BK527 := n2_; have HB := n3_; clear n0_ n1_ n2_ n3_; (try clear hb); (try clear hb2); (try clear hk); (try clear hi)))
           go_ret; exact ⟨er_, bq_ HB⟩
          ·replace c92 := Bool.eq_false_iff.mpr c92; subst c92; have H1 : (some false) = some r := by rw [if_neg (show ¬ (false = true) by decide)] at H; exact H
           clear H; have H := H1; clear H1; obtain rfl := Option.some.inj H; go_wp2_with (first | ((with_reducible refine gate_callee (f := 21) rfl ?_); refine goesL_ (some 93) rfl rfl Try.func21 (by kernel_rfl) rfl #[.slice A1 l1.length c1] rfl ma_ ?_; (with_reducible refine (spec_DrawReadBundle.calls kj19 _ _ l1 t503 _ ?side1 ?side2 A64.out).mono ?_); (case side1 => repeat (first | exact (Kd.C_below HR1.out HB.out) | with_reducible first | refine Kd.C_alloc ?_ _ | refine Kd.C_drewN ?_ _ | refine Kd.C_drew ?_)); (case side2 => exact HC1.out); rintro e w105 ⟨rfl, hb⟩; refine ⟨_, rfl, ?_⟩; have n0_ := Aside0.mk (blk_below (g := gb467) (o := .cells #[.int .i64 t457, .int .i64 t458, .bool t459, .int .i64 t460, .int .i64 t461, .int .i64 t462, .int .i64 t463, .int .i64 t464, .int .i64 t465, .string t466] 32 (0, 0)) pq_ hb); have n1_ := Aside0.mk (below_step (bq_ HB) hb); clear BK467; clear HB; have BK467 := n0_; have HB := n1_; clear n0_ n1_; (try clear hb); (try clear hb2); (try clear hk); (try clear hi)) | ((with_reducible refine gate_callee (f := 20) rfl ?_); refine goesL_ (some 96) rfl rfl Try.func20 (by kernel_rfl) rfl #[.string t503] rfl ma_ ?_; (with_reducible refine (impl_ReadBundle.calls kj19 t503 t504 t505 t506 t507 t508 t509 t510 t511 t512 t513 true _ A65.out).mono ?_); rintro e w106 ⟨rfl, hb⟩; refine ⟨_, rfl, ?_⟩; have n0_ := Aside0.mk (blk_below (g := gb467) (o := .cells #[.int .i64 t457, .int .i64 t458, .bool t459, .int .i64 t460, .int .i64 t461, .int .i64 t462, .int .i64 t463, .int .i64 t464, .int .i64 t465, .string t466] 32 (0, 0)) pq_ hb); have n1_ := Aside0.mk (below_step (bq_ HB) hb); clear BK467; clear HB; have BK467 := n0_; have HB := n1_; clear n0_ n1_; (try clear hb); (try clear hb2); (try clear hk); (try clear hi)) | ((with_reducible refine gate_dst (N := 17) rfl ?_); refine be_ 17 32 (#[.int .i64 0, .int .i64 0, .bool false, .int .i64 0, .int .i64 0, .int .i64 0, .int .i64 0, .int .i64 0, .int .i64 0, .string (⟨#[]⟩ : ByteArray)]) ?_; intro gb515 hg w107 hbox hb; have n0_ := Aside0.mk (blk_below (g := gb467) (o := .cells #[.int .i64 t457, .int .i64 t458, .bool t459, .int .i64 t460, .int .i64 t461, .int .i64 t462, .int .i64 t463, .int .i64 t464, .int .i64 t465, .string t466] 32 (0, 0)) pq_ hb); have n1_ := Aside0.mk (below_step (bq_ HB) hb); have n2_ := Aside0.mk (hbox); have n3_ := Aside0.mk ((by rw [hg]; exact (below_size (bq_ HB)) : w.heap.size ≤ gb515)); have n4_ := Aside0.mk ((by rw [hg]; exact (below_size (bq_ HB)) : w.heap.size ≤ gb515)); have n5_ := Aside0.mk ((by rw [hg]; exact Nat.ne_of_lt (blk_lt (g := gb467) (o := .cells #[.int .i64 t457, .int .i64 t458, .bool t459, .int .i64 t460, .int .i64 t461, .int .i64 t462, .int .i64 t463, .int .i64 t464, .int .i64 t465, .string t466] 32 (0, 0)) pq_) : gb467 ≠ gb515)); have n6_ := Aside0.mk ((by rw [hg]; exact Nat.ne_of_gt (blk_lt (g := gb467) (o := .cells #[.int .i64 t457, .int .i64 t458, .bool t459, .int .i64 t460, .int .i64 t461, .int .i64 t462, .int .i64 t463, .int .i64 t464, .int .i64 t465, .string t466] 32 (0, 0)) pq_) : gb515 ≠ gb467)); clear BK467; clear HB; have BK467 := n0_; have HB := n1_; have BK515 := n2_; have GW515 := n3_; have GE515 := n4_; have NB467_515 := n5_; have NB515_467 := n6_; clear n0_ n1_ n2_ n3_ n4_ n5_ n6_; clear hb hbox hg; have hnb108 := NB515_467.out; have hnc108 := NB467_515.out; obtain ⟨hcz109_0, hcz109_1, hcz109_2, hcz109_3, hcz109_4, hcz109_5, hcz109_6, hcz109_7, hcz109_8, hcz109_9, hfz109_0, hfz109_1, hfz109_2, hfz109_3, hfz109_4, hfz109_5, hfz109_6, hfz109_7, hfz109_8, hfz109_9⟩ := cf10 BK515.out) | ((with_reducible refine gate_callee (f := 22) rfl ?_); refine goesL_ (some 101) rfl rfl Try.func22 (by kernel_rfl) rfl #[.string t503] rfl ma_ ?_; (with_reducible refine (spec_ReadBundle.calls kj19 t503 t516 t517 t518 t519 t520 t521 t522 t523 t524 t525 t526 _ A66.out).mono ?_); rintro e w110 ⟨rfl, hb⟩; refine ⟨_, rfl, ?_⟩; have n0_ := Aside0.mk (blk_below (g := gb467) (o := .cells #[.int .i64 t457, .int .i64 t458, .bool t459, .int .i64 t460, .int .i64 t461, .int .i64 t462, .int .i64 t463, .int .i64 t464, .int .i64 t465, .string t466] 32 (0, 0)) pf10_ hb); have n1_ := Aside0.mk (blk_below (g := gb515) (o := .cells #[.int .i64 t504, .int .i64 t505, .bool t506, .int .i64 t507, .int .i64 t508, .int .i64 t509, .int .i64 t510, .int .i64 t511, .int .i64 t512, .string t513] 32 (0, 0)) pb10_ hb); have n2_ := Aside0.mk (below_step (bq_ HB) hb); clear BK467; clear BK515; clear HB; have BK467 := n0_; have BK515 := n1_; have HB := n2_; clear n0_ n1_ n2_; (try clear hb); (try clear hb2); (try clear hk); (try clear hi)) | ((with_reducible refine gate_dst (N := 19) rfl ?_); refine be_ 19 32 (#[.int .i64 0, .int .i64 0, .bool false, .int .i64 0, .int .i64 0, .int .i64 0, .int .i64 0, .int .i64 0, .int .i64 0, .string (⟨#[]⟩ : ByteArray)]) ?_; intro gb527 hg w111 hbox hb; have n0_ := Aside0.mk (blk_below (g := gb467) (o := .cells #[.int .i64 t457, .int .i64 t458, .bool t459, .int .i64 t460, .int .i64 t461, .int .i64 t462, .int .i64 t463, .int .i64 t464, .int .i64 t465, .string t466] 32 (0, 0)) pq_ hb); have n1_ := Aside0.mk (blk_below (g := gb515) (o := .cells #[.int .i64 t504, .int .i64 t505, .bool t506, .int .i64 t507, .int .i64 t508, .int .i64 t509, .int .i64 t510, .int .i64 t511, .int .i64 t512, .string t513] 32 (0, 0)) pq_ hb); have n2_ := Aside0.mk (below_step (bq_ HB) hb); have n3_ := Aside0.mk (hbox); have n4_ := Aside0.mk ((by rw [hg]; exact (below_size (bq_ HB)) : w.heap.size ≤ gb527)); have n5_ := Aside0.mk ((by rw [hg]; exact (below_size (bq_ HB)) : w.heap.size ≤ gb527)); have n6_ := Aside0.mk ((by rw [hg]; exact Nat.ne_of_lt (blk_lt (g := gb467) (o := .cells #[.int .i64 t457, .int .i64 t458, .bool t459, .int .i64 t460, .int .i64 t461, .int .i64 t462, .int .i64 t463, .int .i64 t464, .int .i64 t465, .string t466] 32 (0, 0)) pq_) : gb467 ≠ gb527)); have n7_ := Aside0.mk ((by rw [hg]; exact Nat.ne_of_gt (blk_lt (g := gb467) (o := .cells #[.int .i64 t457, .int .i64 t458, .bool t459, .int .i64 t460, .int .i64 t461, .int .i64 t462, .int .i64 t463, .int .i64 t464, .int .i64 t465, .string t466] 32 (0, 0)) pq_) : gb527 ≠ gb467)); have n8_ := Aside0.mk ((by rw [hg]; exact Nat.ne_of_lt (blk_lt (g := gb515) (o := .cells #[.int .i64 t504, .int .i64 t505, .bool t506, .int .i64 t507, .int .i64 t508, .int .i64 t509, .int .i64 t510, .int .i64 t511, .int .i64 t512, .string t513] 32 (0, 0)) pq_) : gb515 ≠ gb527)); have n9_ := Aside0.mk ((by rw [hg]; exact Nat.ne_of_gt (blk_lt (g := gb515) (o := .cells #[.int .i64 t504, .int .i64 t505, .bool t506, .int .i64 t507, .int .i64 t508, .int .i64 t509, .int .i64 t510, .int .i64 t511, .int .i64 t512, .string t513] 32 (0, 0)) pq_) : gb527 ≠ gb515)); clear BK467; clear BK515; clear HB; have BK467 := n0_; have BK515 := n1_; have HB := n2_; have BK527 := n3_; have GW527 := n4_; have GE527 := n5_; have NB467_527 := n6_; have NB527_467 := n7_; have NB515_527 := n8_; have NB527_515 := n9_; clear n0_ n1_ n2_ n3_ n4_ n5_ n6_ n7_ n8_ n9_; clear hb hbox hg; have hnb112 := NB527_467.out; have hnc112 := NB467_527.out; have hnb113 := NB527_515.out; have hnc113 := NB515_527.out; obtain ⟨hcz114_0, hcz114_1, hcz114_2, hcz114_3, hcz114_4, hcz114_5, hcz114_6, hcz114_7, hcz114_8, hcz114_9, hfz114_0, hfz114_1, hfz114_2, hfz114_3, hfz114_4, hfz114_5, hfz114_6, hfz114_7, hfz114_8, hfz114_9⟩ := cf10 BK527.out; obtain ⟨hcz115_0, hcz115_1, hcz115_2, hcz115_3, hcz115_4, hcz115_5, hcz115_6, hcz115_7, hcz115_8, hcz115_9, hfz115_0, hfz115_1, hfz115_2, hfz115_3, hfz115_4, hfz115_5, hfz115_6, hfz115_7, hfz115_8, hfz115_9⟩ := cf10 BK515.out) | ((with_reducible refine gate_callee (f := 17) rfl ?_); refine goesL_ (some 114) rfl rfl Try.func17 (by kernel_rfl) rfl #[.agg #[.int .i64 t504, .int .i64 t505, .bool t506, .int .i64 t507, .int .i64 t508, .int .i64 t509, .int .i64 t510, .int .i64 t511, .int .i64 t512, .string t513]] rfl ma_ ?_; (with_reducible refine (impl_BundleBytes.calls kj19 t504 t505 t506 t507 t508 t509 t510 t511 t512 t513 t528 false _ A90.out).mono ?_); rintro e w116 ⟨rfl, hb⟩; refine ⟨_, rfl, ?_⟩; have n0_ := Aside0.mk (blk_below (g := gb467) (o := .cells #[.int .i64 t457, .int .i64 t458, .bool t459, .int .i64 t460, .int .i64 t461, .int .i64 t462, .int .i64 t463, .int .i64 t464, .int .i64 t465, .string t466] 32 (0, 0)) pf10_ hb); have n1_ := Aside0.mk (blk_below (g := gb515) (o := .cells #[.int .i64 t504, .int .i64 t505, .bool t506, .int .i64 t507, .int .i64 t508, .int .i64 t509, .int .i64 t510, .int .i64 t511, .int .i64 t512, .string t513] 32 (0, 0)) pf10_ hb); have n2_ := Aside0.mk (blk_below (g := gb527) (o := .cells #[.int .i64 t516, .int .i64 t517, .bool t518, .int .i64 t519, .int .i64 t520, .int .i64 t521, .int .i64 t522, .int .i64 t523, .int .i64 t524, .string t525] 32 (0, 0)) pb10_ hb); have n3_ := Aside0.mk (below_step (bq_ HB) hb); clear BK467; clear BK515; clear BK527; clear HB; have BK467 := n0_; have BK515 := n1_; have BK527 := n2_; have HB := n3_; clear n0_ n1_ n2_ n3_; (try clear hb); (try clear hb2); (try clear hk); (try clear hi)))
           go_ret; exact ⟨er_, bq_ HB⟩
         ·replace c91 := Bool.eq_false_iff.mpr c91; subst c91; have H1 : (some true) = some r := by rw [if_neg (show ¬ (false = true) by decide)] at H; exact H
          clear H; have H := H1; clear H1; obtain rfl := Option.some.inj H; go_wp2_with (first | ((with_reducible refine gate_callee (f := 21) rfl ?_); refine goesL_ (some 93) rfl rfl Try.func21 (by kernel_rfl) rfl #[.slice A1 l1.length c1] rfl ma_ ?_; (with_reducible refine (spec_DrawReadBundle.calls kj19 _ _ l1 t503 _ ?side1 ?side2 A64.out).mono ?_); (case side1 => repeat (first | exact (Kd.C_below HR1.out HB.out) | with_reducible first | refine Kd.C_alloc ?_ _ | refine Kd.C_drewN ?_ _ | refine Kd.C_drew ?_)); (case side2 => exact HC1.out); rintro e w117 ⟨rfl, hb⟩; refine ⟨_, rfl, ?_⟩; have n0_ := Aside0.mk (blk_below (g := gb467) (o := .cells #[.int .i64 t457, .int .i64 t458, .bool t459, .int .i64 t460, .int .i64 t461, .int .i64 t462, .int .i64 t463, .int .i64 t464, .int .i64 t465, .string t466] 32 (0, 0)) pq_ hb); have n1_ := Aside0.mk (below_step (bq_ HB) hb); clear BK467; clear HB; have BK467 := n0_; have HB := n1_; clear n0_ n1_; (try clear hb); (try clear hb2); (try clear hk); (try clear hi)) | ((with_reducible refine gate_callee (f := 20) rfl ?_); refine goesL_ (some 96) rfl rfl Try.func20 (by kernel_rfl) rfl #[.string t503] rfl ma_ ?_; (with_reducible refine (impl_ReadBundle.calls kj19 t503 t504 t505 t506 t507 t508 t509 t510 t511 t512 t513 false _ A65.out).mono ?_); rintro e w118 ⟨rfl, hb⟩; refine ⟨_, rfl, ?_⟩; have n0_ := Aside0.mk (blk_below (g := gb467) (o := .cells #[.int .i64 t457, .int .i64 t458, .bool t459, .int .i64 t460, .int .i64 t461, .int .i64 t462, .int .i64 t463, .int .i64 t464, .int .i64 t465, .string t466] 32 (0, 0)) pq_ hb); have n1_ := Aside0.mk (below_step (bq_ HB) hb); clear BK467; clear HB; have BK467 := n0_; have HB := n1_; clear n0_ n1_; (try clear hb); (try clear hb2); (try clear hk); (try clear hi)) | ((with_reducible refine gate_dst (N := 17) rfl ?_); refine be_ 17 32 (#[.int .i64 0, .int .i64 0, .bool false, .int .i64 0, .int .i64 0, .int .i64 0, .int .i64 0, .int .i64 0, .int .i64 0, .string (⟨#[]⟩ : ByteArray)]) ?_; intro gb515 hg w119 hbox hb; have n0_ := Aside0.mk (blk_below (g := gb467) (o := .cells #[.int .i64 t457, .int .i64 t458, .bool t459, .int .i64 t460, .int .i64 t461, .int .i64 t462, .int .i64 t463, .int .i64 t464, .int .i64 t465, .string t466] 32 (0, 0)) pq_ hb); have n1_ := Aside0.mk (below_step (bq_ HB) hb); have n2_ := Aside0.mk (hbox); have n3_ := Aside0.mk ((by rw [hg]; exact (below_size (bq_ HB)) : w.heap.size ≤ gb515)); have n4_ := Aside0.mk ((by rw [hg]; exact (below_size (bq_ HB)) : w.heap.size ≤ gb515)); have n5_ := Aside0.mk ((by rw [hg]; exact Nat.ne_of_lt (blk_lt (g := gb467) (o := .cells #[.int .i64 t457, .int .i64 t458, .bool t459, .int .i64 t460, .int .i64 t461, .int .i64 t462, .int .i64 t463, .int .i64 t464, .int .i64 t465, .string t466] 32 (0, 0)) pq_) : gb467 ≠ gb515)); have n6_ := Aside0.mk ((by rw [hg]; exact Nat.ne_of_gt (blk_lt (g := gb467) (o := .cells #[.int .i64 t457, .int .i64 t458, .bool t459, .int .i64 t460, .int .i64 t461, .int .i64 t462, .int .i64 t463, .int .i64 t464, .int .i64 t465, .string t466] 32 (0, 0)) pq_) : gb515 ≠ gb467)); clear BK467; clear HB; have BK467 := n0_; have HB := n1_; have BK515 := n2_; have GW515 := n3_; have GE515 := n4_; have NB467_515 := n5_; have NB515_467 := n6_; clear n0_ n1_ n2_ n3_ n4_ n5_ n6_; clear hb hbox hg; have hnb120 := NB515_467.out; have hnc120 := NB467_515.out; obtain ⟨hcz121_0, hcz121_1, hcz121_2, hcz121_3, hcz121_4, hcz121_5, hcz121_6, hcz121_7, hcz121_8, hcz121_9, hfz121_0, hfz121_1, hfz121_2, hfz121_3, hfz121_4, hfz121_5, hfz121_6, hfz121_7, hfz121_8, hfz121_9⟩ := cf10 BK515.out) | ((with_reducible refine gate_callee (f := 22) rfl ?_); refine goesL_ (some 101) rfl rfl Try.func22 (by kernel_rfl) rfl #[.string t503] rfl ma_ ?_; (with_reducible refine (spec_ReadBundle.calls kj19 t503 t516 t517 t518 t519 t520 t521 t522 t523 t524 t525 t526 _ A66.out).mono ?_); rintro e w122 ⟨rfl, hb⟩; refine ⟨_, rfl, ?_⟩; have n0_ := Aside0.mk (blk_below (g := gb467) (o := .cells #[.int .i64 t457, .int .i64 t458, .bool t459, .int .i64 t460, .int .i64 t461, .int .i64 t462, .int .i64 t463, .int .i64 t464, .int .i64 t465, .string t466] 32 (0, 0)) pf10_ hb); have n1_ := Aside0.mk (blk_below (g := gb515) (o := .cells #[.int .i64 t504, .int .i64 t505, .bool t506, .int .i64 t507, .int .i64 t508, .int .i64 t509, .int .i64 t510, .int .i64 t511, .int .i64 t512, .string t513] 32 (0, 0)) pb10_ hb); have n2_ := Aside0.mk (below_step (bq_ HB) hb); clear BK467; clear BK515; clear HB; have BK467 := n0_; have BK515 := n1_; have HB := n2_; clear n0_ n1_ n2_; (try clear hb); (try clear hb2); (try clear hk); (try clear hi)) | ((with_reducible refine gate_dst (N := 19) rfl ?_); refine be_ 19 32 (#[.int .i64 0, .int .i64 0, .bool false, .int .i64 0, .int .i64 0, .int .i64 0, .int .i64 0, .int .i64 0, .int .i64 0, .string (⟨#[]⟩ : ByteArray)]) ?_; intro gb527 hg w123 hbox hb; have n0_ := Aside0.mk (blk_below (g := gb467) (o := .cells #[.int .i64 t457, .int .i64 t458, .bool t459, .int .i64 t460, .int .i64 t461, .int .i64 t462, .int .i64 t463, .int .i64 t464, .int .i64 t465, .string t466] 32 (0, 0)) pq_ hb); have n1_ := Aside0.mk (blk_below (g := gb515) (o := .cells #[.int .i64 t504, .int .i64 t505, .bool t506, .int .i64 t507, .int .i64 t508, .int .i64 t509, .int .i64 t510, .int .i64 t511, .int .i64 t512, .string t513] 32 (0, 0)) pq_ hb); have n2_ := Aside0.mk (below_step (bq_ HB) hb); have n3_ := Aside0.mk (hbox); have n4_ := Aside0.mk ((by rw [hg]; exact (below_size (bq_ HB)) : w.heap.size ≤ gb527)); have n5_ := Aside0.mk ((by rw [hg]; exact (below_size (bq_ HB)) : w.heap.size ≤ gb527)); have n6_ := Aside0.mk ((by rw [hg]; exact Nat.ne_of_lt (blk_lt (g := gb467) (o := .cells #[.int .i64 t457, .int .i64 t458, .bool t459, .int .i64 t460, .int .i64 t461, .int .i64 t462, .int .i64 t463, .int .i64 t464, .int .i64 t465, .string t466] 32 (0, 0)) pq_) : gb467 ≠ gb527)); have n7_ := Aside0.mk ((by rw [hg]; exact Nat.ne_of_gt (blk_lt (g := gb467) (o := .cells #[.int .i64 t457, .int .i64 t458, .bool t459, .int .i64 t460, .int .i64 t461, .int .i64 t462, .int .i64 t463, .int .i64 t464, .int .i64 t465, .string t466] 32 (0, 0)) pq_) : gb527 ≠ gb467)); have n8_ := Aside0.mk ((by rw [hg]; exact Nat.ne_of_lt (blk_lt (g := gb515) (o := .cells #[.int .i64 t504, .int .i64 t505, .bool t506, .int .i64 t507, .int .i64 t508, .int .i64 t509, .int .i64 t510, .int .i64 t511, .int .i64 t512, .string t513] 32 (0, 0)) pq_) : gb515 ≠ gb527)); have n9_ := Aside0.mk ((by rw [hg]; exact Nat.ne_of_gt (blk_lt (g := gb515) (o := .cells #[.int .i64 t504, .int .i64 t505, .bool t506, .int .i64 t507, .int .i64 t508, .int .i64 t509, .int .i64 t510, .int .i64 t511, .int .i64 t512, .string t513] 32 (0, 0)) pq_) : gb527 ≠ gb515)); clear BK467; clear BK515; clear HB; have BK467 := n0_; have BK515 := n1_; have HB := n2_; have BK527 := n3_; have GW527 := n4_; have GE527 := n5_; have NB467_527 := n6_; have NB527_467 := n7_; have NB515_527 := n8_; have NB527_515 := n9_; clear n0_ n1_ n2_ n3_ n4_ n5_ n6_ n7_ n8_ n9_; clear hb hbox hg; have hnb124 := NB527_467.out; have hnc124 := NB467_527.out; have hnb125 := NB527_515.out; have hnc125 := NB515_527.out; obtain ⟨hcz126_0, hcz126_1, hcz126_2, hcz126_3, hcz126_4, hcz126_5, hcz126_6, hcz126_7, hcz126_8, hcz126_9, hfz126_0, hfz126_1, hfz126_2, hfz126_3, hfz126_4, hfz126_5, hfz126_6, hfz126_7, hfz126_8, hfz126_9⟩ := cf10 BK527.out; obtain ⟨hcz127_0, hcz127_1, hcz127_2, hcz127_3, hcz127_4, hcz127_5, hcz127_6, hcz127_7, hcz127_8, hcz127_9, hfz127_0, hfz127_1, hfz127_2, hfz127_3, hfz127_4, hfz127_5, hfz127_6, hfz127_7, hfz127_8, hfz127_9⟩ := cf10 BK515.out) | ((with_reducible refine gate_callee (f := 17) rfl ?_); refine goesL_ (some 114) rfl rfl Try.func17 (by kernel_rfl) rfl #[.agg #[.int .i64 t504, .int .i64 t505, .bool t506, .int .i64 t507, .int .i64 t508, .int .i64 t509, .int .i64 t510, .int .i64 t511, .int .i64 t512, .string t513]] rfl ma_ ?_; (with_reducible refine (impl_BundleBytes.calls kj19 t504 t505 t506 t507 t508 t509 t510 t511 t512 t513 t528 t529 _ A90.out).mono ?_); rintro e w128 ⟨rfl, hb⟩; refine ⟨_, rfl, ?_⟩; have n0_ := Aside0.mk (blk_below (g := gb467) (o := .cells #[.int .i64 t457, .int .i64 t458, .bool t459, .int .i64 t460, .int .i64 t461, .int .i64 t462, .int .i64 t463, .int .i64 t464, .int .i64 t465, .string t466] 32 (0, 0)) pf10_ hb); have n1_ := Aside0.mk (blk_below (g := gb515) (o := .cells #[.int .i64 t504, .int .i64 t505, .bool t506, .int .i64 t507, .int .i64 t508, .int .i64 t509, .int .i64 t510, .int .i64 t511, .int .i64 t512, .string t513] 32 (0, 0)) pf10_ hb); have n2_ := Aside0.mk (blk_below (g := gb527) (o := .cells #[.int .i64 t516, .int .i64 t517, .bool t518, .int .i64 t519, .int .i64 t520, .int .i64 t521, .int .i64 t522, .int .i64 t523, .int .i64 t524, .string t525] 32 (0, 0)) pb10_ hb); have n3_ := Aside0.mk (below_step (bq_ HB) hb); clear BK467; clear BK515; clear BK527; clear HB; have BK467 := n0_; have BK515 := n1_; have BK527 := n2_; have HB := n3_; clear n0_ n1_ n2_ n3_; (try clear hb); (try clear hb2); (try clear hk); (try clear hi)))
          go_ret; exact ⟨er_, bq_ HB⟩
def laws_FnBundles.Pure : Prop := ∀ (l0 : List Int) (l1 : List Int), l0.length ≤ maxLen → l0.length * 1 ≤ 140737488351232 → (∀ x ∈ l0, (Lit.int .u8 x).wf = true) → l1.length ≤ maxLen → l1.length * 1 ≤ 140737488351232 → (∀ x ∈ l1, (Lit.int .u8 x).wf = true) → ∃ k, laws_FnBundles.f k l0 l1 = some true
end Go.Proofs.Ytaffjcaohbkmoaa.QFnBundles
