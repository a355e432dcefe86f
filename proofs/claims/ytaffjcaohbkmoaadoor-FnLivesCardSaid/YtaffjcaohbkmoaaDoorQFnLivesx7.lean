import Derived.Test.YtaffjcaohbkmoaaDoorQFnLivesx0
import Derived.Test.YtaffjcaohbkmoaaDoorQFnLivesx1
import Derived.Test.YtaffjcaohbkmoaaDoorQFnLivesx2
import Derived.Test.YtaffjcaohbkmoaaDoorQFnLivesx3
import Derived.Test.YtaffjcaohbkmoaaDoorQFnLivesx4
import Derived.Test.YtaffjcaohbkmoaaDoorQFnLivesx5
import Derived.Test.YtaffjcaohbkmoaaDoorQFnLivesx6
namespace Go.Proofs.YtaffjcaohbkmoaaDoor.QFnLives
open Go.RowKit Go.Proofs.YtaffjcaohbkmoaaDoorW.PrintWords Go.Proofs.YtaffjcaohbkmoaaDoorW.PrintLast Go.Proofs.YtaffjcaohbkmoaaDoorW.PrintMore
attribute [local go_sem] max2_int min2_int max_two min_two max_three min_three max_four min_four   -- for this text's walks alone
set_option linter.unusedVariables false
set_option linter.unusedSimpArgs false
attribute [local go_sem high] eqA27
mutual
def laws_FnLives.j0 : Nat → List Int → Int → Bool → Bool → Bool → Int → Int → Bool → Int → Int → Int → Int → Int → Int → ByteArray → Option (Bool)
 | 0, _, _, _, _, _, _, _, _, _, _, _, _, _, _, _ => none
 | k + 1, x1, x6, x7, x8, x60, x321000, x321001, x321002, x321003, x321004, x321005, x321006, x321007, x321008, x321009 => if x60 = true then (some false) else (if x8 = true then (if x7 = true then (laws_FnLives.j1 k x1 x6 (decide (x6 < 2000000)) x321000 x321001 x321002 x321003 x321004 x321005 x321006 x321007 x321008 x321009) else (laws_FnLives.j1 k x1 x6 false x321000 x321001 x321002 x321003 x321004 x321005 x321006 x321007 x321008 x321009)) else (laws_FnLives.j1 k x1 x6 false x321000 x321001 x321002 x321003 x321004 x321005 x321006 x321007 x321008 x321009))
def laws_FnLives.j1 : Nat → List Int → Int → Bool → Int → Int → Bool → Int → Int → Int → Int → Int → Int → ByteArray → Option (Bool)
 | 0, _, _, _, _, _, _, _, _, _, _, _, _, _ => none
 | k + 1, x1, x6, x68, x321000, x321001, x321002, x321003, x321004, x321005, x321006, x321007, x321008, x321009 => if x68 = true then ((impl_IsOver.f k x321000 x321001 x321002 x321003 x321004 x321005 x321006 x321007 x321008 x321009 (wrap64 (x6 + 1))).bind fun bt325 => (if bt325.2 = true then (if bt325.1 = true then (laws_FnLives.j2 k x1) else (some false)) else (some false))) else (laws_FnLives.j2 k x1)
def laws_FnLives.j2 : Nat → List Int → Option (Bool)
 | 0, _ => none
 | k + 1, x1 => (spec_DrawHopBundle.f k x1).bind fun bt327 => ((impl_HopBundle.f k bt327.1 bt327.2.1 bt327.2.2.1 bt327.2.2.2.1 bt327.2.2.2.2.1 bt327.2.2.2.2.2.1 bt327.2.2.2.2.2.2.1 bt327.2.2.2.2.2.2.2.1 bt327.2.2.2.2.2.2.2.2.1 bt327.2.2.2.2.2.2.2.2.2).bind fun bt338 => ((spec_HopBundle.f bt327.1 bt327.2.1 bt327.2.2.1 bt327.2.2.2.1 bt327.2.2.2.2.1 bt327.2.2.2.2.2.1 bt327.2.2.2.2.2.2.1 bt327.2.2.2.2.2.2.2.1 bt327.2.2.2.2.2.2.2.2.1 bt327.2.2.2.2.2.2.2.2.2).bind fun bt350 => (if (bt338.2.2.2.2.2.2.2.2.2.2 != bt350.2.2.2.2.2.2.2.2.2.2) = true then (laws_FnLives.j3 k x1 bt338.2.2.2.2.2.2.2.2.2.2 true bt327.1 bt327.2.1 bt327.2.2.1 bt327.2.2.2.1 bt327.2.2.2.2.1 bt327.2.2.2.2.2.1 bt327.2.2.2.2.2.2.1 bt327.2.2.2.2.2.2.2.1 bt327.2.2.2.2.2.2.2.2.1 bt327.2.2.2.2.2.2.2.2.2 bt338.1 bt338.2.1 bt338.2.2.1 bt338.2.2.2.1 bt338.2.2.2.2.1 bt338.2.2.2.2.2.1 bt338.2.2.2.2.2.2.1 bt338.2.2.2.2.2.2.2.1 bt338.2.2.2.2.2.2.2.2.1 bt338.2.2.2.2.2.2.2.2.2.1) else (laws_FnLives.j3 k x1 bt338.2.2.2.2.2.2.2.2.2.2 (!(bt338.1 == bt350.1) || (!(bt338.2.1 == bt350.2.1) || (!(bt338.2.2.1 == bt350.2.2.1) || (!(bt338.2.2.2.1 == bt350.2.2.2.1) || (!(bt338.2.2.2.2.1 == bt350.2.2.2.2.1) || (!(bt338.2.2.2.2.2.1 == bt350.2.2.2.2.2.1) || (!(bt338.2.2.2.2.2.2.1 == bt350.2.2.2.2.2.2.1) || (!(bt338.2.2.2.2.2.2.2.1 == bt350.2.2.2.2.2.2.2.1) || (!(bt338.2.2.2.2.2.2.2.2.1 == bt350.2.2.2.2.2.2.2.2.1) || (!(bt338.2.2.2.2.2.2.2.2.2.1.toList == bt350.2.2.2.2.2.2.2.2.2.1.toList))))))))))) bt327.1 bt327.2.1 bt327.2.2.1 bt327.2.2.2.1 bt327.2.2.2.2.1 bt327.2.2.2.2.2.1 bt327.2.2.2.2.2.2.1 bt327.2.2.2.2.2.2.2.1 bt327.2.2.2.2.2.2.2.2.1 bt327.2.2.2.2.2.2.2.2.2 bt338.1 bt338.2.1 bt338.2.2.1 bt338.2.2.2.1 bt338.2.2.2.2.1 bt338.2.2.2.2.2.1 bt338.2.2.2.2.2.2.1 bt338.2.2.2.2.2.2.2.1 bt338.2.2.2.2.2.2.2.2.1 bt338.2.2.2.2.2.2.2.2.2.1))))
def laws_FnLives.j3 : Nat → List Int → Bool → Bool → Int → Int → Bool → Int → Int → Int → Int → Int → Int → ByteArray → Int → Int → Bool → Int → Int → Int → Int → Int → Int → ByteArray → Option (Bool)
 | 0, _, _, _, _, _, _, _, _, _, _, _, _, _, _, _, _, _, _, _, _, _, _, _ => none
 | k + 1, x1, x15, x101, x338000, x338001, x338002, x338003, x338004, x338005, x338006, x338007, x338008, x338009, x350000, x350001, x350002, x350003, x350004, x350005, x350006, x350007, x350008, x350009 => if x101 = true then (some false) else (if x15 = true then ((impl_SameBundle.f k x350000 x350001 x350002 x350003 x350004 x350005 x350006 x350007 x350008 x350009 x338000 x338001 x338002 x338003 x338004 x338005 x338006 x338007 x338008 x338009).bind fun bt362 => (if bt362.2 = true then (if bt362.1 = true then (if x350006 = (wrap64 (x338006 - 1)) then (if x350009.toList = x338009.toList then ((impl_GoodBundle.f k x350000 x350001 x350002 x350003 x350004 x350005 x350006 x350007 x350008 x350009).bind fun t364 => (if t364 = true then (laws_FnLives.j4 k x1) else (some false))) else (some false)) else (some false)) else (some false)) else (some false))) else (laws_FnLives.j4 k x1))
def laws_FnLives.j4 : Nat → List Int → Option (Bool)
 | 0, _ => none
 | k + 1, x1 => (spec_DrawSameBundle.f k x1).bind fun bt365 => ((impl_IdOf.f k bt365.1 bt365.2.1 bt365.2.2.1 bt365.2.2.2.1 bt365.2.2.2.2.1 bt365.2.2.2.2.2.1 bt365.2.2.2.2.2.2.1 bt365.2.2.2.2.2.2.2.1 bt365.2.2.2.2.2.2.2.2.1 bt365.2.2.2.2.2.2.2.2.2.1).bind fun bt387 => ((spec_IdOf.f k bt365.1 bt365.2.1 bt365.2.2.1 bt365.2.2.2.1 bt365.2.2.2.2.1 bt365.2.2.2.2.2.1 bt365.2.2.2.2.2.2.1 bt365.2.2.2.2.2.2.2.1 bt365.2.2.2.2.2.2.2.2.1 bt365.2.2.2.2.2.2.2.2.2.1).bind fun bt389 => ((impl_IdOf.f k bt365.2.2.2.2.2.2.2.2.2.2.1 bt365.2.2.2.2.2.2.2.2.2.2.2.1 bt365.2.2.2.2.2.2.2.2.2.2.2.2.1 bt365.2.2.2.2.2.2.2.2.2.2.2.2.2.1 bt365.2.2.2.2.2.2.2.2.2.2.2.2.2.2.1 bt365.2.2.2.2.2.2.2.2.2.2.2.2.2.2.2.1 bt365.2.2.2.2.2.2.2.2.2.2.2.2.2.2.2.2.1 bt365.2.2.2.2.2.2.2.2.2.2.2.2.2.2.2.2.2.1 bt365.2.2.2.2.2.2.2.2.2.2.2.2.2.2.2.2.2.2.1 bt365.2.2.2.2.2.2.2.2.2.2.2.2.2.2.2.2.2.2.2).bind fun bt391 => ((impl_SameBundle.f k bt365.1 bt365.2.1 bt365.2.2.1 bt365.2.2.2.1 bt365.2.2.2.2.1 bt365.2.2.2.2.2.1 bt365.2.2.2.2.2.2.1 bt365.2.2.2.2.2.2.2.1 bt365.2.2.2.2.2.2.2.2.1 bt365.2.2.2.2.2.2.2.2.2.1 bt365.2.2.2.2.2.2.2.2.2.2.1 bt365.2.2.2.2.2.2.2.2.2.2.2.1 bt365.2.2.2.2.2.2.2.2.2.2.2.2.1 bt365.2.2.2.2.2.2.2.2.2.2.2.2.2.1 bt365.2.2.2.2.2.2.2.2.2.2.2.2.2.2.1 bt365.2.2.2.2.2.2.2.2.2.2.2.2.2.2.2.1 bt365.2.2.2.2.2.2.2.2.2.2.2.2.2.2.2.2.1 bt365.2.2.2.2.2.2.2.2.2.2.2.2.2.2.2.2.2.1 bt365.2.2.2.2.2.2.2.2.2.2.2.2.2.2.2.2.2.2.1 bt365.2.2.2.2.2.2.2.2.2.2.2.2.2.2.2.2.2.2.2).bind fun bt393 => (laws_FnLives.j5 k bt387.1 bt387.2 bt389.1 bt389.2 bt391.1 bt391.2 bt393.1 bt393.2)))))
def laws_FnLives.j5 : Nat → ByteArray → Bool → ByteArray → Bool → ByteArray → Bool → Bool → Bool → Option (Bool)
 | 0, _, _, _, _, _, _, _, _ => none
 | k + 1, x22, x23, x24, x25, x26, x27, x28, x29 => if (x23 == x25) = true then (if x22.toList = x24.toList then (if x23 = true then (if (x29 == x27) = true then (if x29 = true then (some (x28 == (x22.toList == x26.toList))) else (some true)) else (some false)) else (if (x29 == false) = true then (if x29 = true then (some (x28 == (x22.toList == x26.toList))) else (some true)) else (some false))) else (some false)) else (some false)
end
def laws_FnLives.f (k : Nat) (l0 : List Int) (l1 : List Int) : Option (Bool) := if (wrap64 ((l0.length : Int) + (l1.length : Int))) > 1048576 then (some true) else ((spec_DrawIsOver.f k l0).bind fun bt309 => ((impl_IsOver.f k bt309.1 bt309.2.1 bt309.2.2.1 bt309.2.2.2.1 bt309.2.2.2.2.1 bt309.2.2.2.2.2.1 bt309.2.2.2.2.2.2.1 bt309.2.2.2.2.2.2.2.1 bt309.2.2.2.2.2.2.2.2.1 bt309.2.2.2.2.2.2.2.2.2.1 bt309.2.2.2.2.2.2.2.2.2.2).bind fun bt321 => ((spec_IsOver.f bt309.1 bt309.2.1 bt309.2.2.1 bt309.2.2.2.1 bt309.2.2.2.2.1 bt309.2.2.2.2.2.1 bt309.2.2.2.2.2.2.1 bt309.2.2.2.2.2.2.2.1 bt309.2.2.2.2.2.2.2.2.1 bt309.2.2.2.2.2.2.2.2.2.1 bt309.2.2.2.2.2.2.2.2.2.2).bind fun bt323 => (if (bt321.2 != bt323.2) = true then (laws_FnLives.j0 k l1 bt309.2.2.2.2.2.2.2.2.2.2 bt321.1 bt321.2 true bt309.1 bt309.2.1 bt309.2.2.1 bt309.2.2.2.1 bt309.2.2.2.2.1 bt309.2.2.2.2.2.1 bt309.2.2.2.2.2.2.1 bt309.2.2.2.2.2.2.2.1 bt309.2.2.2.2.2.2.2.2.1 bt309.2.2.2.2.2.2.2.2.2.1) else (laws_FnLives.j0 k l1 bt309.2.2.2.2.2.2.2.2.2.2 bt321.1 bt321.2 (bt321.1 != bt323.1) bt309.1 bt309.2.1 bt309.2.2.1 bt309.2.2.2.1 bt309.2.2.2.2.1 bt309.2.2.2.2.2.1 bt309.2.2.2.2.2.2.1 bt309.2.2.2.2.2.2.2.1 bt309.2.2.2.2.2.2.2.2.1 bt309.2.2.2.2.2.2.2.2.2.1)))))
theorem laws_FnLives.mono_l : ∀ k, (∀ y0 y1 y2 y3 y4 y5 y6 y7 y8 y9 y10 y11 y12 y13 y14, LeO (laws_FnLives.j0 k y0 y1 y2 y3 y4 y5 y6 y7 y8 y9 y10 y11 y12 y13 y14) (laws_FnLives.j0 (k + 1) y0 y1 y2 y3 y4 y5 y6 y7 y8 y9 y10 y11 y12 y13 y14)) ∧ (∀ y0 y1 y2 y3 y4 y5 y6 y7 y8 y9 y10 y11 y12, LeO (laws_FnLives.j1 k y0 y1 y2 y3 y4 y5 y6 y7 y8 y9 y10 y11 y12) (laws_FnLives.j1 (k + 1) y0 y1 y2 y3 y4 y5 y6 y7 y8 y9 y10 y11 y12)) ∧ (∀ y0, LeO (laws_FnLives.j2 k y0) (laws_FnLives.j2 (k + 1) y0)) ∧ (∀ y0 y1 y2 y3 y4 y5 y6 y7 y8 y9 y10 y11 y12 y13 y14 y15 y16 y17 y18 y19 y20 y21 y22, LeO (laws_FnLives.j3 k y0 y1 y2 y3 y4 y5 y6 y7 y8 y9 y10 y11 y12 y13 y14 y15 y16 y17 y18 y19 y20 y21 y22) (laws_FnLives.j3 (k + 1) y0 y1 y2 y3 y4 y5 y6 y7 y8 y9 y10 y11 y12 y13 y14 y15 y16 y17 y18 y19 y20 y21 y22)) ∧ (∀ y0, LeO (laws_FnLives.j4 k y0) (laws_FnLives.j4 (k + 1) y0)) ∧ (∀ y0 y1 y2 y3 y4 y5 y6 y7, LeO (laws_FnLives.j5 k y0 y1 y2 y3 y4 y5 y6 y7) (laws_FnLives.j5 (k + 1) y0 y1 y2 y3 y4 y5 y6 y7))
 | 0 => ⟨fun _ _ _ _ _ _ _ _ _ _ _ _ _ _ _ r h => by simp [laws_FnLives.j0] at h, fun _ _ _ _ _ _ _ _ _ _ _ _ _ r h => by simp [laws_FnLives.j1] at h, fun _ r h => by simp [laws_FnLives.j2] at h, fun _ _ _ _ _ _ _ _ _ _ _ _ _ _ _ _ _ _ _ _ _ _ _ r h => by simp [laws_FnLives.j3] at h, fun _ r h => by simp [laws_FnLives.j4] at h, fun _ _ _ _ _ _ _ _ r h => by simp [laws_FnLives.j5] at h⟩
 | k + 1 => by
  obtain ⟨ih0, ih1, ih2, ih3, ih4, ih5⟩ := laws_FnLives.mono_l k
  refine ⟨?_, ?_, ?_, ?_, ?_, ?_⟩
  ·intro y0 y1 y2 y3 y4 y5 y6 y7 y8 y9 y10 y11 y12 y13 y14
   unfold laws_FnLives.j0
   repeat' first
   | (with_reducible exact ih0 _ _ _ _ _ _ _ _ _ _ _ _ _ _ _)
   | (with_reducible exact ih1 _ _ _ _ _ _ _ _ _ _ _ _ _)
   | (with_reducible exact ih2 _)
   | (with_reducible exact ih3 _ _ _ _ _ _ _ _ _ _ _ _ _ _ _ _ _ _ _ _ _ _ _)
   | (with_reducible exact ih4 _)
   | (with_reducible exact ih5 _ _ _ _ _ _ _ _)
   | (with_reducible exact impl_GoodBundle.mono _ _ _ _ _ _ _ _ _ _ _)
   | (with_reducible exact impl_HopBundle.mono _ _ _ _ _ _ _ _ _ _ _)
   | (with_reducible exact impl_IdOf.mono _ _ _ _ _ _ _ _ _ _ _)
   | (with_reducible exact impl_IsOver.mono _ _ _ _ _ _ _ _ _ _ _ _)
   | (with_reducible exact impl_SameBundle.mono _ _ _ _ _ _ _ _ _ _ _ _ _ _ _ _ _ _ _ _ _)
   | (with_reducible exact spec_DrawHopBundle.mono _ _)
   | (with_reducible exact spec_DrawIsOver.mono _ _)
   | (with_reducible exact spec_DrawSameBundle.mono _ _)
   | (with_reducible exact spec_IdOf.mono _ _ _ _ _ _ _ _ _ _ _)
   | (with_reducible exact LeO.refl _)
   | (with_reducible exact LeO.none _)
   | (with_reducible refine LeO.ite ?_ ?_)
   | (with_reducible refine LeO.bind ?_ (fun _ => ?_))
   | exact ih0 _ _ _ _ _ _ _ _ _ _ _ _ _ _ _
   | exact ih1 _ _ _ _ _ _ _ _ _ _ _ _ _
   | exact ih2 _
   | exact ih3 _ _ _ _ _ _ _ _ _ _ _ _ _ _ _ _ _ _ _ _ _ _ _
   | exact ih4 _
   | exact ih5 _ _ _ _ _ _ _ _
   | exact impl_GoodBundle.mono _ _ _ _ _ _ _ _ _ _ _
   | exact impl_HopBundle.mono _ _ _ _ _ _ _ _ _ _ _
   | exact impl_IdOf.mono _ _ _ _ _ _ _ _ _ _ _
   | exact impl_IsOver.mono _ _ _ _ _ _ _ _ _ _ _ _
   | exact impl_SameBundle.mono _ _ _ _ _ _ _ _ _ _ _ _ _ _ _ _ _ _ _ _ _
   | exact spec_DrawHopBundle.mono _ _
   | exact spec_DrawIsOver.mono _ _
   | exact spec_DrawSameBundle.mono _ _
   | exact spec_IdOf.mono _ _ _ _ _ _ _ _ _ _ _
   | exact LeO.none _
   | refine LeO.ite ?_ ?_
   | refine LeO.bind ?_ (fun _ => ?_)
  ·intro y0 y1 y2 y3 y4 y5 y6 y7 y8 y9 y10 y11 y12
   unfold laws_FnLives.j1
   repeat' first
   | (with_reducible exact ih0 _ _ _ _ _ _ _ _ _ _ _ _ _ _ _)
   | (with_reducible exact ih1 _ _ _ _ _ _ _ _ _ _ _ _ _)
   | (with_reducible exact ih2 _)
   | (with_reducible exact ih3 _ _ _ _ _ _ _ _ _ _ _ _ _ _ _ _ _ _ _ _ _ _ _)
   | (with_reducible exact ih4 _)
   | (with_reducible exact ih5 _ _ _ _ _ _ _ _)
   | (with_reducible exact impl_GoodBundle.mono _ _ _ _ _ _ _ _ _ _ _)
   | (with_reducible exact impl_HopBundle.mono _ _ _ _ _ _ _ _ _ _ _)
   | (with_reducible exact impl_IdOf.mono _ _ _ _ _ _ _ _ _ _ _)
   | (with_reducible exact impl_IsOver.mono _ _ _ _ _ _ _ _ _ _ _ _)
   | (with_reducible exact impl_SameBundle.mono _ _ _ _ _ _ _ _ _ _ _ _ _ _ _ _ _ _ _ _ _)
   | (with_reducible exact spec_DrawHopBundle.mono _ _)
   | (with_reducible exact spec_DrawIsOver.mono _ _)
   | (with_reducible exact spec_DrawSameBundle.mono _ _)
   | (with_reducible exact spec_IdOf.mono _ _ _ _ _ _ _ _ _ _ _)
   | (with_reducible exact LeO.refl _)
   | (with_reducible exact LeO.none _)
   | (with_reducible refine LeO.ite ?_ ?_)
   | (with_reducible refine LeO.bind ?_ (fun _ => ?_))
   | exact ih0 _ _ _ _ _ _ _ _ _ _ _ _ _ _ _
   | exact ih1 _ _ _ _ _ _ _ _ _ _ _ _ _
   | exact ih2 _
   | exact ih3 _ _ _ _ _ _ _ _ _ _ _ _ _ _ _ _ _ _ _ _ _ _ _
   | exact ih4 _
   | exact ih5 _ _ _ _ _ _ _ _
   | exact impl_GoodBundle.mono _ _ _ _ _ _ _ _ _ _ _
   | exact impl_HopBundle.mono _ _ _ _ _ _ _ _ _ _ _
   | exact impl_IdOf.mono _ _ _ _ _ _ _ _ _ _ _
   | exact impl_IsOver.mono _ _ _ _ _ _ _ _ _ _ _ _
   | exact impl_SameBundle.mono _ _ _ _ _ _ _ _ _ _ _ _ _ _ _ _ _ _ _ _ _
   | exact spec_DrawHopBundle.mono _ _
   | exact spec_DrawIsOver.mono _ _
   | exact spec_DrawSameBundle.mono _ _
   | exact spec_IdOf.mono _ _ _ _ _ _ _ _ _ _ _
   | exact LeO.none _
   | refine LeO.ite ?_ ?_
   | refine LeO.bind ?_ (fun _ => ?_)
  ·intro y0
   unfold laws_FnLives.j2
   repeat' first
   | (with_reducible exact ih0 _ _ _ _ _ _ _ _ _ _ _ _ _ _ _)
   | (with_reducible exact ih1 _ _ _ _ _ _ _ _ _ _ _ _ _)
   | (with_reducible exact ih2 _)
   | (with_reducible exact ih3 _ _ _ _ _ _ _ _ _ _ _ _ _ _ _ _ _ _ _ _ _ _ _)
   | (with_reducible exact ih4 _)
   | (with_reducible exact ih5 _ _ _ _ _ _ _ _)
   | (with_reducible exact impl_GoodBundle.mono _ _ _ _ _ _ _ _ _ _ _)
   | (with_reducible exact impl_HopBundle.mono _ _ _ _ _ _ _ _ _ _ _)
   | (with_reducible exact impl_IdOf.mono _ _ _ _ _ _ _ _ _ _ _)
   | (with_reducible exact impl_IsOver.mono _ _ _ _ _ _ _ _ _ _ _ _)
   | (with_reducible exact impl_SameBundle.mono _ _ _ _ _ _ _ _ _ _ _ _ _ _ _ _ _ _ _ _ _)
   | (with_reducible exact spec_DrawHopBundle.mono _ _)
   | (with_reducible exact spec_DrawIsOver.mono _ _)
   | (with_reducible exact spec_DrawSameBundle.mono _ _)
   | (with_reducible exact spec_IdOf.mono _ _ _ _ _ _ _ _ _ _ _)
   | (with_reducible exact LeO.refl _)
   | (with_reducible exact LeO.none _)
   | (with_reducible refine LeO.ite ?_ ?_)
   | (with_reducible refine LeO.bind ?_ (fun _ => ?_))
   | exact ih0 _ _ _ _ _ _ _ _ _ _ _ _ _ _ _
   | exact ih1 _ _ _ _ _ _ _ _ _ _ _ _ _
   | exact ih2 _
   | exact ih3 _ _ _ _ _ _ _ _ _ _ _ _ _ _ _ _ _ _ _ _ _ _ _
   | exact ih4 _
   | exact ih5 _ _ _ _ _ _ _ _
   | exact impl_GoodBundle.mono _ _ _ _ _ _ _ _ _ _ _
   | exact impl_HopBundle.mono _ _ _ _ _ _ _ _ _ _ _
   | exact impl_IdOf.mono _ _ _ _ _ _ _ _ _ _ _
   | exact impl_IsOver.mono _ _ _ _ _ _ _ _ _ _ _ _
   | exact impl_SameBundle.mono _ _ _ _ _ _ _ _ _ _ _ _ _ _ _ _ _ _ _ _ _
   | exact spec_DrawHopBundle.mono _ _
   | exact spec_DrawIsOver.mono _ _
   | exact spec_DrawSameBundle.mono _ _
   | exact spec_IdOf.mono _ _ _ _ _ _ _ _ _ _ _
   | exact LeO.none _
   | refine LeO.ite ?_ ?_
   | refine LeO.bind ?_ (fun _ => ?_)
  ·intro y0 y1 y2 y3 y4 y5 y6 y7 y8 y9 y10 y11 y12 y13 y14 y15 y16 y17 y18 y19 y20 y21 y22
   unfold laws_FnLives.j3
   repeat' first
   | (with_reducible exact ih0 _ _ _ _ _ _ _ _ _ _ _ _ _ _ _)
   | (with_reducible exact ih1 _ _ _ _ _ _ _ _ _ _ _ _ _)
   | (with_reducible exact ih2 _)
   | (with_reducible exact ih3 _ _ _ _ _ _ _ _ _ _ _ _ _ _ _ _ _ _ _ _ _ _ _)
   | (with_reducible exact ih4 _)
   | (with_reducible exact ih5 _ _ _ _ _ _ _ _)
   | (with_reducible exact impl_GoodBundle.mono _ _ _ _ _ _ _ _ _ _ _)
   | (with_reducible exact impl_HopBundle.mono _ _ _ _ _ _ _ _ _ _ _)
   | (with_reducible exact impl_IdOf.mono _ _ _ _ _ _ _ _ _ _ _)
   | (with_reducible exact impl_IsOver.mono _ _ _ _ _ _ _ _ _ _ _ _)
   | (with_reducible exact impl_SameBundle.mono _ _ _ _ _ _ _ _ _ _ _ _ _ _ _ _ _ _ _ _ _)
   | (with_reducible exact spec_DrawHopBundle.mono _ _)
   | (with_reducible exact spec_DrawIsOver.mono _ _)
   | (with_reducible exact spec_DrawSameBundle.mono _ _)
   | (with_reducible exact spec_IdOf.mono _ _ _ _ _ _ _ _ _ _ _)
   | (with_reducible exact LeO.refl _)
   | (with_reducible exact LeO.none _)
   | (with_reducible refine LeO.ite ?_ ?_)
   | (with_reducible refine LeO.bind ?_ (fun _ => ?_))
   | exact ih0 _ _ _ _ _ _ _ _ _ _ _ _ _ _ _
   | exact ih1 _ _ _ _ _ _ _ _ _ _ _ _ _
   | exact ih2 _
   | exact ih3 _ _ _ _ _ _ _ _ _ _ _ _ _ _ _ _ _ _ _ _ _ _ _
   | exact ih4 _
   | exact ih5 _ _ _ _ _ _ _ _
   | exact impl_GoodBundle.mono _ _ _ _ _ _ _ _ _ _ _
   | exact impl_HopBundle.mono _ _ _ _ _ _ _ _ _ _ _
   | exact impl_IdOf.mono _ _ _ _ _ _ _ _ _ _ _
   | exact impl_IsOver.mono _ _ _ _ _ _ _ _ _ _ _ _
   | exact impl_SameBundle.mono _ _ _ _ _ _ _ _ _ _ _ _ _ _ _ _ _ _ _ _ _
   | exact spec_DrawHopBundle.mono _ _
   | exact spec_DrawIsOver.mono _ _
   | exact spec_DrawSameBundle.mono _ _
   | exact spec_IdOf.mono _ _ _ _ _ _ _ _ _ _ _
   | exact LeO.none _
   | refine LeO.ite ?_ ?_
   | refine LeO.bind ?_ (fun _ => ?_)
  ·intro y0
   unfold laws_FnLives.j4
   repeat' first
   | (with_reducible exact ih0 _ _ _ _ _ _ _ _ _ _ _ _ _ _ _)
   | (with_reducible exact ih1 _ _ _ _ _ _ _ _ _ _ _ _ _)
   | (with_reducible exact ih2 _)
   | (with_reducible exact ih3 _ _ _ _ _ _ _ _ _ _ _ _ _ _ _ _ _ _ _ _ _ _ _)
   | (with_reducible exact ih4 _)
   | (with_reducible exact ih5 _ _ _ _ _ _ _ _)
   | (with_reducible exact impl_GoodBundle.mono _ _ _ _ _ _ _ _ _ _ _)
   | (with_reducible exact impl_HopBundle.mono _ _ _ _ _ _ _ _ _ _ _)
   | (with_reducible exact impl_IdOf.mono _ _ _ _ _ _ _ _ _ _ _)
   | (with_reducible exact impl_IsOver.mono _ _ _ _ _ _ _ _ _ _ _ _)
   | (with_reducible exact impl_SameBundle.mono _ _ _ _ _ _ _ _ _ _ _ _ _ _ _ _ _ _ _ _ _)
   | (with_reducible exact spec_DrawHopBundle.mono _ _)
   | (with_reducible exact spec_DrawIsOver.mono _ _)
   | (with_reducible exact spec_DrawSameBundle.mono _ _)
   | (with_reducible exact spec_IdOf.mono _ _ _ _ _ _ _ _ _ _ _)
   | (with_reducible exact LeO.refl _)
   | (with_reducible exact LeO.none _)
   | (with_reducible refine LeO.ite ?_ ?_)
   | (with_reducible refine LeO.bind ?_ (fun _ => ?_))
   | exact ih0 _ _ _ _ _ _ _ _ _ _ _ _ _ _ _
   | exact ih1 _ _ _ _ _ _ _ _ _ _ _ _ _
   | exact ih2 _
   | exact ih3 _ _ _ _ _ _ _ _ _ _ _ _ _ _ _ _ _ _ _ _ _ _ _
   | exact ih4 _
   | exact ih5 _ _ _ _ _ _ _ _
   | exact impl_GoodBundle.mono _ _ _ _ _ _ _ _ _ _ _
   | exact impl_HopBundle.mono _ _ _ _ _ _ _ _ _ _ _
   | exact impl_IdOf.mono _ _ _ _ _ _ _ _ _ _ _
   | exact impl_IsOver.mono _ _ _ _ _ _ _ _ _ _ _ _
   | exact impl_SameBundle.mono _ _ _ _ _ _ _ _ _ _ _ _ _ _ _ _ _ _ _ _ _
   | exact spec_DrawHopBundle.mono _ _
   | exact spec_DrawIsOver.mono _ _
   | exact spec_DrawSameBundle.mono _ _
   | exact spec_IdOf.mono _ _ _ _ _ _ _ _ _ _ _
   | exact LeO.none _
   | refine LeO.ite ?_ ?_
   | refine LeO.bind ?_ (fun _ => ?_)
  ·intro y0 y1 y2 y3 y4 y5 y6 y7
   unfold laws_FnLives.j5
   repeat' first
   | (with_reducible exact ih0 _ _ _ _ _ _ _ _ _ _ _ _ _ _ _)
   | (with_reducible exact ih1 _ _ _ _ _ _ _ _ _ _ _ _ _)
   | (with_reducible exact ih2 _)
   | (with_reducible exact ih3 _ _ _ _ _ _ _ _ _ _ _ _ _ _ _ _ _ _ _ _ _ _ _)
   | (with_reducible exact ih4 _)
   | (with_reducible exact ih5 _ _ _ _ _ _ _ _)
   | (with_reducible exact impl_GoodBundle.mono _ _ _ _ _ _ _ _ _ _ _)
   | (with_reducible exact impl_HopBundle.mono _ _ _ _ _ _ _ _ _ _ _)
   | (with_reducible exact impl_IdOf.mono _ _ _ _ _ _ _ _ _ _ _)
   | (with_reducible exact impl_IsOver.mono _ _ _ _ _ _ _ _ _ _ _ _)
   | (with_reducible exact impl_SameBundle.mono _ _ _ _ _ _ _ _ _ _ _ _ _ _ _ _ _ _ _ _ _)
   | (with_reducible exact spec_DrawHopBundle.mono _ _)
   | (with_reducible exact spec_DrawIsOver.mono _ _)
   | (with_reducible exact spec_DrawSameBundle.mono _ _)
   | (with_reducible exact spec_IdOf.mono _ _ _ _ _ _ _ _ _ _ _)
   | (with_reducible exact LeO.refl _)
   | (with_reducible exact LeO.none _)
   | (with_reducible refine LeO.ite ?_ ?_)
   | (with_reducible refine LeO.bind ?_ (fun _ => ?_))
   | exact ih0 _ _ _ _ _ _ _ _ _ _ _ _ _ _ _
   | exact ih1 _ _ _ _ _ _ _ _ _ _ _ _ _
   | exact ih2 _
   | exact ih3 _ _ _ _ _ _ _ _ _ _ _ _ _ _ _ _ _ _ _ _ _ _ _
   | exact ih4 _
   | exact ih5 _ _ _ _ _ _ _ _
   | exact impl_GoodBundle.mono _ _ _ _ _ _ _ _ _ _ _
   | exact impl_HopBundle.mono _ _ _ _ _ _ _ _ _ _ _
   | exact impl_IdOf.mono _ _ _ _ _ _ _ _ _ _ _
   | exact impl_IsOver.mono _ _ _ _ _ _ _ _ _ _ _ _
   | exact impl_SameBundle.mono _ _ _ _ _ _ _ _ _ _ _ _ _ _ _ _ _ _ _ _ _
   | exact spec_DrawHopBundle.mono _ _
   | exact spec_DrawIsOver.mono _ _
   | exact spec_DrawSameBundle.mono _ _
   | exact spec_IdOf.mono _ _ _ _ _ _ _ _ _ _ _
   | exact LeO.none _
   | refine LeO.ite ?_ ?_
   | refine LeO.bind ?_ (fun _ => ?_)
theorem laws_FnLives.mono : ∀ a0 a1 k, LeO (laws_FnLives.f k a0 a1) (laws_FnLives.f (k + 1) a0 a1) := by
 intro a0 a1 k
 obtain ⟨ih0, ih1, ih2, ih3, ih4, ih5⟩ := laws_FnLives.mono_l k
 unfold laws_FnLives.f
 repeat' first
   | (with_reducible exact ih0 _ _ _ _ _ _ _ _ _ _ _ _ _ _ _)
   | (with_reducible exact ih1 _ _ _ _ _ _ _ _ _ _ _ _ _)
   | (with_reducible exact ih2 _)
   | (with_reducible exact ih3 _ _ _ _ _ _ _ _ _ _ _ _ _ _ _ _ _ _ _ _ _ _ _)
   | (with_reducible exact ih4 _)
   | (with_reducible exact ih5 _ _ _ _ _ _ _ _)
   | (with_reducible exact impl_GoodBundle.mono _ _ _ _ _ _ _ _ _ _ _)
   | (with_reducible exact impl_HopBundle.mono _ _ _ _ _ _ _ _ _ _ _)
   | (with_reducible exact impl_IdOf.mono _ _ _ _ _ _ _ _ _ _ _)
   | (with_reducible exact impl_IsOver.mono _ _ _ _ _ _ _ _ _ _ _ _)
   | (with_reducible exact impl_SameBundle.mono _ _ _ _ _ _ _ _ _ _ _ _ _ _ _ _ _ _ _ _ _)
   | (with_reducible exact spec_DrawHopBundle.mono _ _)
   | (with_reducible exact spec_DrawIsOver.mono _ _)
   | (with_reducible exact spec_DrawSameBundle.mono _ _)
   | (with_reducible exact spec_IdOf.mono _ _ _ _ _ _ _ _ _ _ _)
   | (with_reducible exact LeO.refl _)
   | (with_reducible exact LeO.none _)
   | (with_reducible refine LeO.ite ?_ ?_)
   | (with_reducible refine LeO.bind ?_ (fun _ => ?_))
   | exact ih0 _ _ _ _ _ _ _ _ _ _ _ _ _ _ _
   | exact ih1 _ _ _ _ _ _ _ _ _ _ _ _ _
   | exact ih2 _
   | exact ih3 _ _ _ _ _ _ _ _ _ _ _ _ _ _ _ _ _ _ _ _ _ _ _
   | exact ih4 _
   | exact ih5 _ _ _ _ _ _ _ _
   | exact impl_GoodBundle.mono _ _ _ _ _ _ _ _ _ _ _
   | exact impl_HopBundle.mono _ _ _ _ _ _ _ _ _ _ _
   | exact impl_IdOf.mono _ _ _ _ _ _ _ _ _ _ _
   | exact impl_IsOver.mono _ _ _ _ _ _ _ _ _ _ _ _
   | exact impl_SameBundle.mono _ _ _ _ _ _ _ _ _ _ _ _ _ _ _ _ _ _ _ _ _
   | exact spec_DrawHopBundle.mono _ _
   | exact spec_DrawIsOver.mono _ _
   | exact spec_DrawSameBundle.mono _ _
   | exact spec_IdOf.mono _ _ _ _ _ _ _ _ _ _ _
   | exact LeO.none _
   | refine LeO.ite ?_ ?_
   | refine LeO.bind ?_ (fun _ => ?_)
set_option maxHeartbeats 8000000 in
set_option maxRecDepth 100000 in
theorem laws_FnLives.calls (k : Nat) (A0 : Option Addr) (c0 : Nat) (l0 : List Int) (A1 : Option Addr) (c1 : Nat) (l1 : List Int) (r : Bool) (w : World) (hr0 : Kd.C (Kd.int .u8) w A0 l0.length l0) (hc0 : l0.length ≤ c0) (hr1 : Kd.C (Kd.int .u8) w A1 l1.length l1) (hc1 : l1.length ≤ c1) (hT : TabW w) (hrb : r = true) (h : laws_FnLives.f k l0 l1 = some r) :
  Calls Tryd.prog 5 #[.slice A0 l0.length c0, .slice A1 l1.length c1] w fun e w' => e = .returned (.bool r) ∧ Below w.heap.size w w' := by
 have HTB := Aside0.mk hT
 clear hT
 have hu27 := Tryd.underlying27
 have HR0 := Aside0.mk hr0
 have HC0 := Aside0.mk hc0
 clear hr0 hc0
 have HR1 := Aside0.mk hr1
 have HC1 := Aside0.mk hc1
 clear hr1 hc1
 have HB := Aside0.mk (Below.refl w.heap.size w)
 have H : (if (wrap64 ((l0.length : Int) + (l1.length : Int))) > 1048576 then (some true) else ((spec_DrawIsOver.f k l0).bind fun bt309 => ((impl_IsOver.f k bt309.1 bt309.2.1 bt309.2.2.1 bt309.2.2.2.1 bt309.2.2.2.2.1 bt309.2.2.2.2.2.1 bt309.2.2.2.2.2.2.1 bt309.2.2.2.2.2.2.2.1 bt309.2.2.2.2.2.2.2.2.1 bt309.2.2.2.2.2.2.2.2.2.1 bt309.2.2.2.2.2.2.2.2.2.2).bind fun bt321 => ((spec_IsOver.f bt309.1 bt309.2.1 bt309.2.2.1 bt309.2.2.2.1 bt309.2.2.2.2.1 bt309.2.2.2.2.2.1 bt309.2.2.2.2.2.2.1 bt309.2.2.2.2.2.2.2.1 bt309.2.2.2.2.2.2.2.2.1 bt309.2.2.2.2.2.2.2.2.2.1 bt309.2.2.2.2.2.2.2.2.2.2).bind fun bt323 => (if (bt321.2 != bt323.2) = true then (laws_FnLives.j0 k l1 bt309.2.2.2.2.2.2.2.2.2.2 bt321.1 bt321.2 true bt309.1 bt309.2.1 bt309.2.2.1 bt309.2.2.2.1 bt309.2.2.2.2.1 bt309.2.2.2.2.2.1 bt309.2.2.2.2.2.2.1 bt309.2.2.2.2.2.2.2.1 bt309.2.2.2.2.2.2.2.2.1 bt309.2.2.2.2.2.2.2.2.2.1) else (laws_FnLives.j0 k l1 bt309.2.2.2.2.2.2.2.2.2.2 bt321.1 bt321.2 (bt321.1 != bt323.1) bt309.1 bt309.2.1 bt309.2.2.1 bt309.2.2.2.1 bt309.2.2.2.2.1 bt309.2.2.2.2.2.1 bt309.2.2.2.2.2.2.1 bt309.2.2.2.2.2.2.2.1 bt309.2.2.2.2.2.2.2.2.1 bt309.2.2.2.2.2.2.2.2.2.1)))))) = some r := h
 clear h
 by_cases c3 : (wrap64 ((l0.length : Int) + (l1.length : Int))) > 1048576
 ·rw [if_pos c3] at H
  have c3b0 : decide (1048576 < (wrap64 ((l0.length : Int) + (l1.length : Int)))) = true := decide_eq_true c3
  clear c3
  first
  | (rw [hrb] at H; cases H; done)
  | obtain rfl := Option.some.inj H
    go_enter Tryd.func5, Tryd.ntmps5
    go_wp2
    go_ret
    exact ⟨by first | rfl | (simp [errW_none, errW_some] <;> rfl) | (simp [*, errW_none, errW_some] <;> rfl), by repeat (first | (with_reducible first | exact HB.out | apply below_alloc | apply pw_below_drewN | apply below_drew1) | exact HB.out | (with_reducible exact Below.refl _ _))⟩
 ·rw [if_neg c3] at H
  have c3b0 : decide (1048576 < (wrap64 ((l0.length : Int) + (l1.length : Int)))) = false := decide_eq_false c3
  clear c3
  replace H := Option.bind_eq_some_iff.mp H
  obtain ⟨⟨t309, t310, t311, t312, t313, t314, t315, t316, t317, t318, t319⟩, A40, H⟩ := H
  replace H : ((impl_IsOver.f k t309 t310 t311 t312 t313 t314 t315 t316 t317 t318 t319).bind fun bt321 => ((spec_IsOver.f t309 t310 t311 t312 t313 t314 t315 t316 t317 t318 t319).bind fun bt323 => (if (bt321.2 != bt323.2) = true then (laws_FnLives.j0 k l1 t319 bt321.1 bt321.2 true t309 t310 t311 t312 t313 t314 t315 t316 t317 t318) else (laws_FnLives.j0 k l1 t319 bt321.1 bt321.2 (bt321.1 != bt323.1) t309 t310 t311 t312 t313 t314 t315 t316 t317 t318)))) = some r := H
  have A4 := Aside0.mk A40
  clear A40
  replace H := Option.bind_eq_some_iff.mp H
  obtain ⟨⟨t321, t322⟩, A50, H⟩ := H
  replace H : ((spec_IsOver.f t309 t310 t311 t312 t313 t314 t315 t316 t317 t318 t319).bind fun bt323 => (if (t322 != bt323.2) = true then (laws_FnLives.j0 k l1 t319 t321 t322 true t309 t310 t311 t312 t313 t314 t315 t316 t317 t318) else (laws_FnLives.j0 k l1 t319 t321 t322 (t321 != bt323.1) t309 t310 t311 t312 t313 t314 t315 t316 t317 t318))) = some r := H
  have A5 := Aside0.mk A50
  clear A50
  replace H := Option.bind_eq_some_iff.mp H
  obtain ⟨⟨t323, t324⟩, A60, H⟩ := H
  replace H : (if (t322 != t324) = true then (laws_FnLives.j0 k l1 t319 t321 t322 true t309 t310 t311 t312 t313 t314 t315 t316 t317 t318) else (laws_FnLives.j0 k l1 t319 t321 t322 (t321 != t323) t309 t310 t311 t312 t313 t314 t315 t316 t317 t318)) = some r := H
  have A6 := Aside0.mk A60
  clear A60
  have HC7 := Aside0.mk H
  clear H
  go_enter Tryd.func5, Tryd.ntmps5
  go_upto_region 6 with (first | ((with_reducible refine gate_callee (f := 12) rfl ?_); refine goesL_ (some 38) rfl rfl Tryd.func12 (by kernel_rfl) rfl #[.slice A0 l0.length c0] rfl (by (try simp only [List.map_toArray, List.map_cons, List.map_nil]); first | done | rfl | (simp only [List.length_drop, List.length_take]; rfl)) ?_; (with_reducible refine (spec_DrawIsOver.calls k _ _ l0 t309 t310 t311 t312 t313 t314 t315 t316 t317 t318 t319 _ ?side1 ?side2 A4.out).mono ?_); (case side1 => repeat (first | exact HR0.out | (with_reducible refine Kd.C_alloc ?_ _) | (with_reducible refine Kd.C_drewN ?_ _) | (with_reducible refine Kd.C_drew ?_))); (case side2 => exact HC0.out); rintro e w8 ⟨rfl, hb⟩; refine ⟨_, rfl, ?_⟩; have n0_ := Aside0.mk (below_step (by repeat (first | (with_reducible first | exact HB.out | apply below_alloc | apply pw_below_drewN | apply below_drew1) | exact HB.out | (with_reducible exact Below.refl _ _))) hb); clear HB; have HB := n0_; clear n0_; (try clear hb); (try clear hb2); (try clear hk); (try clear hi)) | ((with_reducible refine gate_dst (N := 5) rfl ?_); refine box_event ?hg (N := 5) ?hd (cs := #[.int .i64 0, .int .i64 0, .bool false, .int .i64 0, .int .i64 0, .int .i64 0, .int .i64 0, .int .i64 0, .int .i64 0, .string (⟨#[]⟩ : ByteArray)]) (t := 27) ?hr ?_; (case hd => rfl); (case hg => rfl); (case hr => first | (go_simp; done) | (go_simp; rfl)); intro gb320 hg w9 hbox hb; have n0_ := Aside0.mk (below_step (by repeat (first | (with_reducible first | exact HB.out | apply below_alloc | apply pw_below_drewN | apply below_drew1) | exact HB.out | (with_reducible exact Below.refl _ _))) hb); have n1_ := Aside0.mk (hbox); have n2_ := Aside0.mk ((by rw [hg]; exact (below_size (by repeat (first | (with_reducible first | exact HB.out | apply below_alloc | apply pw_below_drewN | apply below_drew1) | exact HB.out | (with_reducible exact Below.refl _ _)))) : w.heap.size ≤ gb320)); have n3_ := Aside0.mk ((by rw [hg]; exact (below_size (by repeat (first | (with_reducible first | exact HB.out | apply below_alloc | apply pw_below_drewN | apply below_drew1) | exact HB.out | (with_reducible exact Below.refl _ _)))) : w.heap.size ≤ gb320)); clear HB; have HB := n0_; have BK320 := n1_; have GW320 := n2_; have GE320 := n3_; clear n0_ n1_ n2_ n3_; clear hb hbox hg; have hcz10_0 : w9.cell? ⟨gb320, 0, none⟩ = some (.int .i64 0) := (blk_cell BK320.out 0).trans rfl; have hcz10_1 : w9.cell? ⟨gb320, 1, none⟩ = some (.int .i64 0) := (blk_cell BK320.out 1).trans rfl; have hcz10_2 : w9.cell? ⟨gb320, 2, none⟩ = some (.bool false) := (blk_cell BK320.out 2).trans rfl; have hcz10_3 : w9.cell? ⟨gb320, 3, none⟩ = some (.int .i64 0) := (blk_cell BK320.out 3).trans rfl; have hcz10_4 : w9.cell? ⟨gb320, 4, none⟩ = some (.int .i64 0) := (blk_cell BK320.out 4).trans rfl; have hcz10_5 : w9.cell? ⟨gb320, 5, none⟩ = some (.int .i64 0) := (blk_cell BK320.out 5).trans rfl; have hcz10_6 : w9.cell? ⟨gb320, 6, none⟩ = some (.int .i64 0) := (blk_cell BK320.out 6).trans rfl; have hcz10_7 : w9.cell? ⟨gb320, 7, none⟩ = some (.int .i64 0) := (blk_cell BK320.out 7).trans rfl; have hcz10_8 : w9.cell? ⟨gb320, 8, none⟩ = some (.int .i64 0) := (blk_cell BK320.out 8).trans rfl; have hcz10_9 : w9.cell? ⟨gb320, 9, none⟩ = some (.string (⟨#[]⟩ : ByteArray)) := (blk_cell BK320.out 9).trans rfl; have hfz10_0 := blk_frozen BK320.out 0; have hfz10_1 := blk_frozen BK320.out 1; have hfz10_2 := blk_frozen BK320.out 2; have hfz10_3 := blk_frozen BK320.out 3; have hfz10_4 := blk_frozen BK320.out 4; have hfz10_5 := blk_frozen BK320.out 5; have hfz10_6 := blk_frozen BK320.out 6; have hfz10_7 := blk_frozen BK320.out 7; have hfz10_8 := blk_frozen BK320.out 8; have hfz10_9 := blk_frozen BK320.out 9) | ((with_reducible refine gate_callee (f := 13) rfl ?_); refine goesL_ (some 44) rfl rfl Tryd.func13 (by kernel_rfl) rfl #[.agg #[.int .i64 t309, .int .i64 t310, .bool t311, .int .i64 t312, .int .i64 t313, .int .i64 t314, .int .i64 t315, .int .i64 t316, .int .i64 t317, .string t318], .int .i64 t319] rfl (by (try simp only [List.map_toArray, List.map_cons, List.map_nil]); first | done | rfl | (simp only [List.length_drop, List.length_take]; rfl)) ?_; (with_reducible refine (impl_IsOver.calls k t309 t310 t311 t312 t313 t314 t315 t316 t317 t318 t319 t321 t322 _ A5.out).mono ?_); rintro e w11 ⟨rfl, hb⟩; refine ⟨_, rfl, ?_⟩; have n0_ := Aside0.mk (blk_below (g := gb320) (o := .cells #[.int .i64 t309, .int .i64 t310, .bool t311, .int .i64 t312, .int .i64 t313, .int .i64 t314, .int .i64 t315, .int .i64 t316, .int .i64 t317, .string t318] 27 (0, 0)) (by (with_reducible repeat (first | refine blk_drewN ?_ _ | refine blk_drew ?_ | refine blk_alloc ?_ _)); refine blk_put (cs := #[.int .i64 t309, .int .i64 t310, .bool t311, .int .i64 t312, .int .i64 t313, .int .i64 t314, .int .i64 t315, .int .i64 t316, .int .i64 t317, .string (⟨#[]⟩ : ByteArray)]) ?_ 9 _ rfl; (with_reducible repeat (first | refine blk_drewN ?_ _ | refine blk_drew ?_ | refine blk_alloc ?_ _)); refine blk_put (cs := #[.int .i64 t309, .int .i64 t310, .bool t311, .int .i64 t312, .int .i64 t313, .int .i64 t314, .int .i64 t315, .int .i64 t316, .int .i64 0, .string (⟨#[]⟩ : ByteArray)]) ?_ 8 _ rfl; (with_reducible repeat (first | refine blk_drewN ?_ _ | refine blk_drew ?_ | refine blk_alloc ?_ _)); refine blk_put (cs := #[.int .i64 t309, .int .i64 t310, .bool t311, .int .i64 t312, .int .i64 t313, .int .i64 t314, .int .i64 t315, .int .i64 0, .int .i64 0, .string (⟨#[]⟩ : ByteArray)]) ?_ 7 _ rfl; (with_reducible repeat (first | refine blk_drewN ?_ _ | refine blk_drew ?_ | refine blk_alloc ?_ _)); refine blk_put (cs := #[.int .i64 t309, .int .i64 t310, .bool t311, .int .i64 t312, .int .i64 t313, .int .i64 t314, .int .i64 0, .int .i64 0, .int .i64 0, .string (⟨#[]⟩ : ByteArray)]) ?_ 6 _ rfl; (with_reducible repeat (first | refine blk_drewN ?_ _ | refine blk_drew ?_ | refine blk_alloc ?_ _)); refine blk_put (cs := #[.int .i64 t309, .int .i64 t310, .bool t311, .int .i64 t312, .int .i64 t313, .int .i64 0, .int .i64 0, .int .i64 0, .int .i64 0, .string (⟨#[]⟩ : ByteArray)]) ?_ 5 _ rfl; (with_reducible repeat (first | refine blk_drewN ?_ _ | refine blk_drew ?_ | refine blk_alloc ?_ _)); refine blk_put (cs := #[.int .i64 t309, .int .i64 t310, .bool t311, .int .i64 t312, .int .i64 0, .int .i64 0, .int .i64 0, .int .i64 0, .int .i64 0, .string (⟨#[]⟩ : ByteArray)]) ?_ 4 _ rfl; (with_reducible repeat (first | refine blk_drewN ?_ _ | refine blk_drew ?_ | refine blk_alloc ?_ _)); refine blk_put (cs := #[.int .i64 t309, .int .i64 t310, .bool t311, .int .i64 0, .int .i64 0, .int .i64 0, .int .i64 0, .int .i64 0, .int .i64 0, .string (⟨#[]⟩ : ByteArray)]) ?_ 3 _ rfl; (with_reducible repeat (first | refine blk_drewN ?_ _ | refine blk_drew ?_ | refine blk_alloc ?_ _)); refine blk_put (cs := #[.int .i64 t309, .int .i64 t310, .bool false, .int .i64 0, .int .i64 0, .int .i64 0, .int .i64 0, .int .i64 0, .int .i64 0, .string (⟨#[]⟩ : ByteArray)]) ?_ 2 _ rfl; (with_reducible repeat (first | refine blk_drewN ?_ _ | refine blk_drew ?_ | refine blk_alloc ?_ _)); refine blk_put (cs := #[.int .i64 t309, .int .i64 0, .bool false, .int .i64 0, .int .i64 0, .int .i64 0, .int .i64 0, .int .i64 0, .int .i64 0, .string (⟨#[]⟩ : ByteArray)]) ?_ 1 _ rfl; (with_reducible repeat (first | refine blk_drewN ?_ _ | refine blk_drew ?_ | refine blk_alloc ?_ _)); refine blk_put (cs := #[.int .i64 0, .int .i64 0, .bool false, .int .i64 0, .int .i64 0, .int .i64 0, .int .i64 0, .int .i64 0, .int .i64 0, .string (⟨#[]⟩ : ByteArray)]) ?_ 0 _ rfl; (with_reducible repeat (first | refine blk_drewN ?_ _ | refine blk_drew ?_ | refine blk_alloc ?_ _)); exact BK320.out) hb); have n1_ := Aside0.mk (below_step (by repeat (first | (with_reducible first | exact HB.out | apply below_alloc | apply pw_below_drewN | apply below_drew1 | refine below_set ?_ GE320.out) | exact HB.out | (with_reducible exact Below.refl _ _))) hb); clear BK320; clear HB; have BK320 := n0_; have HB := n1_; clear n0_ n1_; (try clear hb); (try clear hb2); (try clear hk); (try clear hi); have hcz12_0 : w11.cell? ⟨gb320, 0, none⟩ = some (.int .i64 t309) := (blk_cell BK320.out 0).trans rfl; have hcz12_1 : w11.cell? ⟨gb320, 1, none⟩ = some (.int .i64 t310) := (blk_cell BK320.out 1).trans rfl; have hcz12_2 : w11.cell? ⟨gb320, 2, none⟩ = some (.bool t311) := (blk_cell BK320.out 2).trans rfl; have hcz12_3 : w11.cell? ⟨gb320, 3, none⟩ = some (.int .i64 t312) := (blk_cell BK320.out 3).trans rfl; have hcz12_4 : w11.cell? ⟨gb320, 4, none⟩ = some (.int .i64 t313) := (blk_cell BK320.out 4).trans rfl; have hcz12_5 : w11.cell? ⟨gb320, 5, none⟩ = some (.int .i64 t314) := (blk_cell BK320.out 5).trans rfl; have hcz12_6 : w11.cell? ⟨gb320, 6, none⟩ = some (.int .i64 t315) := (blk_cell BK320.out 6).trans rfl; have hcz12_7 : w11.cell? ⟨gb320, 7, none⟩ = some (.int .i64 t316) := (blk_cell BK320.out 7).trans rfl; have hcz12_8 : w11.cell? ⟨gb320, 8, none⟩ = some (.int .i64 t317) := (blk_cell BK320.out 8).trans rfl; have hcz12_9 : w11.cell? ⟨gb320, 9, none⟩ = some (.string t318) := (blk_cell BK320.out 9).trans rfl; have hfz12_0 := blk_frozen BK320.out 0; have hfz12_1 := blk_frozen BK320.out 1; have hfz12_2 := blk_frozen BK320.out 2; have hfz12_3 := blk_frozen BK320.out 3; have hfz12_4 := blk_frozen BK320.out 4; have hfz12_5 := blk_frozen BK320.out 5; have hfz12_6 := blk_frozen BK320.out 6; have hfz12_7 := blk_frozen BK320.out 7; have hfz12_8 := blk_frozen BK320.out 8; have hfz12_9 := blk_frozen BK320.out 9) | ((with_reducible refine gate_callee (f := 14) rfl ?_); refine goesL_ (some 50) rfl rfl Tryd.func14 (by kernel_rfl) rfl #[.agg #[.int .i64 t309, .int .i64 t310, .bool t311, .int .i64 t312, .int .i64 t313, .int .i64 t314, .int .i64 t315, .int .i64 t316, .int .i64 t317, .string t318], .int .i64 t319] rfl (by (try simp only [List.map_toArray, List.map_cons, List.map_nil]); first | done | rfl | (simp only [List.length_drop, List.length_take]; rfl)) ?_; (with_reducible refine (spec_IsOver.calls t309 t310 t311 t312 t313 t314 t315 t316 t317 t318 t319 t323 t324 _ A6.out).mono ?_); rintro e w13 ⟨rfl, hb⟩; refine ⟨_, rfl, ?_⟩; have n0_ := Aside0.mk (blk_below (g := gb320) (o := .cells #[.int .i64 t309, .int .i64 t310, .bool t311, .int .i64 t312, .int .i64 t313, .int .i64 t314, .int .i64 t315, .int .i64 t316, .int .i64 t317, .string t318] 27 (0, 0)) (by (with_reducible repeat (first | refine blk_drewN ?_ _ | refine blk_drew ?_ | refine blk_alloc ?_ _)); exact BK320.out) hb); have n1_ := Aside0.mk (below_step (by repeat (first | (with_reducible first | exact HB.out | apply below_alloc | apply pw_below_drewN | apply below_drew1 | refine below_set ?_ GE320.out) | exact HB.out | (with_reducible exact Below.refl _ _))) hb); clear BK320; clear HB; have BK320 := n0_; have HB := n1_; clear n0_ n1_; (try clear hb); (try clear hb2); (try clear hk); (try clear hi)))
  (try simp only [Act.put, List.setIfInBounds_toArray, List.set_cons_zero, List.set_cons_succ])
  go_cut [60] (fun v60 wc => ∃ (kq : Nat) (x60_6 : Bool), v60 = .bool x60_6 ∧ Aside0 (laws_FnLives.j0 kq l1 t319 t321 t322 x60_6 t309 t310 t311 t312 t313 t314 t315 t316 t317 t318 = some r) ∧ Aside0 (kq ≤ k) ∧ Aside0 (wc.heap[gb320]? = some (.cells #[.int .i64 t309, .int .i64 t310, .bool t311, .int .i64 t312, .int .i64 t313, .int .i64 t314, .int .i64 t315, .int .i64 t316, .int .i64 t317, .string t318] 27 (0, 0))) ∧ Aside0 (Below w.heap.size w wc))
  case first =>
   have H := HC7.out
   clear HC7
   by_cases c14 : (t322 != t324) = true
   ·rw [if_pos c14] at H
    have c14b0 : (t322 != t324) = true := c14
    (try (have c14b1 : decide (t322 = t324) = false := by simpa using c14))
    (try (have c14b2 : (t322 == t324) = false := by simpa using c14))
    (try (have c14b3 : ¬ (t322 = t324) := by simpa using c14))
    clear c14
    (first | rw [c14b0] | (simp only [i64_w, i32_w]; rw [c14b0]) | skip)
    have H' := Aside0.mk H
    clear H
    go_wp2
    go_meet
    case rel => exact ⟨_, (true), (by first | rfl | (simp; done) | (simp [*]; done)), H', ⟨by first | omega | exact Nat.le_refl _⟩, ⟨by (with_reducible repeat (first | refine blk_drewN ?_ _ | refine blk_drew ?_ | refine blk_alloc ?_ _)); exact BK320.out⟩, ⟨by repeat (first | (with_reducible first | exact HB.out | apply below_alloc | apply pw_below_drewN | apply below_drew1 | refine below_set ?_ GE320.out) | exact HB.out | (with_reducible exact Below.refl _ _))⟩⟩
   ·rw [if_neg c14] at H
    have c14b0 : (t322 != t324) = false := by simpa using c14
    (try (have c14b1 : decide (t322 = t324) = true := by simpa using c14))
    (try (have c14b2 : (t322 == t324) = true := by simpa using c14))
    clear c14
    (first | rw [c14b0] | (simp only [i64_w, i32_w]; rw [c14b0]) | skip)
    have H' := Aside0.mk H
    clear H
    go_wp2
    go_meet
    case rel => exact ⟨_, ((t321 != t323)), (by first | rfl | (simp; done) | (simp [*]; done)), H', ⟨by first | omega | exact Nat.le_refl _⟩, ⟨by (with_reducible repeat (first | refine blk_drewN ?_ _ | refine blk_drew ?_ | refine blk_alloc ?_ _)); exact BK320.out⟩, ⟨by repeat (first | (with_reducible first | exact HB.out | apply below_alloc | apply pw_below_drewN | apply below_drew1 | refine below_set ?_ GE320.out) | exact HB.out | (with_reducible exact Below.refl _ _))⟩⟩
  case rest =>
   clear HC7
   try clear c1
   try clear p2
   try clear c3
   try clear c3b0
   try clear c5
   try clear p6
   try clear c12
   try clear c13
   try clear c14
   try clear c14b0
   try clear c14b1
   try clear c14b2
   try clear hcz10_0
   try clear hcz10_1
   try clear hcz10_2
   try clear hcz10_3
   try clear hcz10_4
   try clear hcz10_5
   try clear hcz10_6
   try clear hcz10_7
   try clear hcz10_8
   try clear hcz10_9
   try clear hcz12_0
   try clear hcz12_1
   try clear hcz12_2
   try clear hcz12_3
   try clear hcz12_4
   try clear hcz12_5
   try clear hcz12_6
   try clear hcz12_7
   try clear hcz12_8
   try clear hcz12_9
   try clear hfz10_0
   try clear hfz10_1
   try clear hfz10_2
   try clear hfz10_3
   try clear hfz10_4
   try clear hfz10_5
   try clear hfz10_6
   try clear hfz10_7
   try clear hfz10_8
   try clear hfz10_9
   try clear hfz12_0
   try clear hfz12_1
   try clear hfz12_2
   try clear hfz12_3
   try clear hfz12_4
   try clear hfz12_5
   try clear hfz12_6
   try clear hfz12_7
   try clear hfz12_8
   try clear hfz12_9
   obtain ⟨kq, x60_6, rfl, HA, HJ6, BK320, HB⟩ := hcut
   cases kq with
   | zero => exact absurd HA.out (by simp [laws_FnLives.j0])
   | succ kj6 =>
    have H := HA.out
    clear HA
    simp only [laws_FnLives.j0] at H
    by_cases c15 : x60_6 = true
    ·subst c15
     have H1 : (some false) = some r := by rw [if_pos rfl] at H; exact H
     clear H
     have H := H1
     clear H1
     first
     | (rw [hrb] at H; cases H; done)
     | obtain rfl := Option.some.inj H
       go_wp2
       go_ret
       exact ⟨by first | rfl | (simp [errW_none, errW_some] <;> rfl) | (simp [*, errW_none, errW_some] <;> rfl), by repeat (first | (with_reducible first | exact HB.out | apply below_alloc | apply pw_below_drewN | apply below_drew1 | refine below_set ?_ GE320.out) | exact HB.out | (with_reducible exact Below.refl _ _))⟩
    ·replace c15 := Bool.eq_false_iff.mpr c15
     subst c15
     have H1 : (if t322 = true then (if t321 = true then (laws_FnLives.j1 kj6 l1 t319 (decide (t319 < 2000000)) t309 t310 t311 t312 t313 t314 t315 t316 t317 t318) else (laws_FnLives.j1 kj6 l1 t319 false t309 t310 t311 t312 t313 t314 t315 t316 t317 t318)) else (laws_FnLives.j1 kj6 l1 t319 false t309 t310 t311 t312 t313 t314 t315 t316 t317 t318)) = some r := by rw [if_neg (show ¬ (false = true) by decide)] at H; exact H
     clear H
     have H := H1
     clear H1
     have HC16 := Aside0.mk H
     clear H
     go_upto_region 8 with (fail)
     go_cut [68] (fun v68 wc => ∃ (kq : Nat) (x68_15 : Bool), v68 = .bool x68_15 ∧ Aside0 (laws_FnLives.j1 kq l1 t319 x68_15 t309 t310 t311 t312 t313 t314 t315 t316 t317 t318 = some r) ∧ Aside0 (kq ≤ kj6) ∧ Aside0 (wc.heap[gb320]? = some (.cells #[.int .i64 t309, .int .i64 t310, .bool t311, .int .i64 t312, .int .i64 t313, .int .i64 t314, .int .i64 t315, .int .i64 t316, .int .i64 t317, .string t318] 27 (0, 0))) ∧ Aside0 (Below w.heap.size w wc))
     case first =>
      have H := HC16.out
      clear HC16
      by_cases c17 : t322 = true
      ·subst c17
       have H1 : (if t321 = true then (laws_FnLives.j1 kj6 l1 t319 (decide (t319 < 2000000)) t309 t310 t311 t312 t313 t314 t315 t316 t317 t318) else (laws_FnLives.j1 kj6 l1 t319 false t309 t310 t311 t312 t313 t314 t315 t316 t317 t318)) = some r := by rw [if_pos rfl] at H; exact H
       clear H
       have H := H1
       clear H1
       by_cases c18 : t321 = true
       ·subst c18
        have H1 : (laws_FnLives.j1 kj6 l1 t319 (decide (t319 < 2000000)) t309 t310 t311 t312 t313 t314 t315 t316 t317 t318) = some r := by rw [if_pos rfl] at H; exact H
        clear H
        have H := H1
        clear H1
        have H' := Aside0.mk H
        clear H
        go_wp2
        go_meet
        case rel => exact ⟨_, (decide (t319 < 2000000)), (by first | rfl | (simp; done) | (simp [*]; done)), H', ⟨by have := HJ6.out; first | omega | exact Nat.le_refl _⟩, ⟨by (with_reducible repeat (first | refine blk_drewN ?_ _ | refine blk_drew ?_ | refine blk_alloc ?_ _)); exact BK320.out⟩, ⟨by repeat (first | (with_reducible first | exact HB.out | apply below_alloc | apply pw_below_drewN | apply below_drew1 | refine below_set ?_ GE320.out) | exact HB.out | (with_reducible exact Below.refl _ _))⟩⟩
       ·replace c18 := Bool.eq_false_iff.mpr c18
        subst c18
        have H1 : (laws_FnLives.j1 kj6 l1 t319 false t309 t310 t311 t312 t313 t314 t315 t316 t317 t318) = some r := by rw [if_neg (show ¬ (false = true) by decide)] at H; exact H
        clear H
        have H := H1
        clear H1
        have H' := Aside0.mk H
        clear H
        go_wp2
        go_meet
        case rel => exact ⟨_, (false), (by first | rfl | (simp; done) | (simp [*]; done)), H', ⟨by have := HJ6.out; first | omega | exact Nat.le_refl _⟩, ⟨by (with_reducible repeat (first | refine blk_drewN ?_ _ | refine blk_drew ?_ | refine blk_alloc ?_ _)); exact BK320.out⟩, ⟨by repeat (first | (with_reducible first | exact HB.out | apply below_alloc | apply pw_below_drewN | apply below_drew1 | refine below_set ?_ GE320.out) | exact HB.out | (with_reducible exact Below.refl _ _))⟩⟩
      ·replace c17 := Bool.eq_false_iff.mpr c17
       subst c17
       have H1 : (laws_FnLives.j1 kj6 l1 t319 false t309 t310 t311 t312 t313 t314 t315 t316 t317 t318) = some r := by rw [if_neg (show ¬ (false = true) by decide)] at H; exact H
       clear H
       have H := H1
       clear H1
       have H' := Aside0.mk H
       clear H
       go_wp2
       go_meet
       case rel => exact ⟨_, (false), (by first | rfl | (simp; done) | (simp [*]; done)), H', ⟨by have := HJ6.out; first | omega | exact Nat.le_refl _⟩, ⟨by (with_reducible repeat (first | refine blk_drewN ?_ _ | refine blk_drew ?_ | refine blk_alloc ?_ _)); exact BK320.out⟩, ⟨by repeat (first | (with_reducible first | exact HB.out | apply below_alloc | apply pw_below_drewN | apply below_drew1 | refine below_set ?_ GE320.out) | exact HB.out | (with_reducible exact Below.refl _ _))⟩⟩
     case rest =>
      clear HC16
      try clear c1
      try clear p2
      try clear c3
      try clear c3b0
      try clear c5
      try clear p6
      try clear c12
      try clear c13
      try clear c14
      try clear c14b0
      try clear c14b1
      try clear c14b2
      try clear c15
      try clear c17
      try clear c18
      try clear hcz10_0
      try clear hcz10_1
      try clear hcz10_2
      try clear hcz10_3
      try clear hcz10_4
      try clear hcz10_5
      try clear hcz10_6
      try clear hcz10_7
      try clear hcz10_8
      try clear hcz10_9
      try clear hcz12_0
      try clear hcz12_1
      try clear hcz12_2
      try clear hcz12_3
      try clear hcz12_4
      try clear hcz12_5
      try clear hcz12_6
      try clear hcz12_7
      try clear hcz12_8
      try clear hcz12_9
      try clear hfz10_0
      try clear hfz10_1
      try clear hfz10_2
      try clear hfz10_3
      try clear hfz10_4
      try clear hfz10_5
      try clear hfz10_6
      try clear hfz10_7
      try clear hfz10_8
      try clear hfz10_9
      try clear hfz12_0
      try clear hfz12_1
      try clear hfz12_2
      try clear hfz12_3
      try clear hfz12_4
      try clear hfz12_5
      try clear hfz12_6
      try clear hfz12_7
      try clear hfz12_8
      try clear hfz12_9
      try clear p2
      try clear p6
      obtain ⟨kq, x68_15, rfl, HA, HJ15, BK320, HB⟩ := hcut
      cases kq with
      | zero => exact absurd HA.out (by simp [laws_FnLives.j1])
      | succ kj15 =>
       have H := HA.out
       clear HA
       simp only [laws_FnLives.j1] at H
       have HC19 := Aside0.mk H
       clear H
       go_upto_if 68 with (fail)
       go_cut [] (fun wc => ∃ (kq : Nat), Aside0 (laws_FnLives.j2 kq l1 = some r) ∧ Aside0 (kq ≤ kj15) ∧ Aside0 (Below w.heap.size w wc))
       case first =>
        have H := HC19.out
        clear HC19
        by_cases c20 : x68_15 = true
        ·subst c20
         have H1 : ((impl_IsOver.f kj15 t309 t310 t311 t312 t313 t314 t315 t316 t317 t318 (wrap64 (t319 + 1))).bind fun bt325 => (if bt325.2 = true then (if bt325.1 = true then (laws_FnLives.j2 kj15 l1) else (some false)) else (some false))) = some r := by rw [if_pos rfl] at H; exact H
         clear H
         have H := H1
         clear H1
         replace H := Option.bind_eq_some_iff.mp H
         obtain ⟨⟨t325, t326⟩, A210, H⟩ := H
         replace H : (if t326 = true then (if t325 = true then (laws_FnLives.j2 kj15 l1) else (some false)) else (some false)) = some r := H
         have A21 := Aside0.mk A210
         clear A210
         by_cases c22 : t326 = true
         ·subst c22
          have H1 : (if t325 = true then (laws_FnLives.j2 kj15 l1) else (some false)) = some r := by rw [if_pos rfl] at H; exact H
          clear H
          have H := H1
          clear H1
          by_cases c23 : t325 = true
          ·subst c23
           have H1 : (laws_FnLives.j2 kj15 l1) = some r := by rw [if_pos rfl] at H; exact H
           clear H
           have H := H1
           clear H1
           have H' := Aside0.mk H
           clear H
           have hcz24_0 : wc.cell? ⟨gb320, 0, none⟩ = some (.int .i64 t309) := (blk_cell BK320.out 0).trans rfl
           have hcz24_1 : wc.cell? ⟨gb320, 1, none⟩ = some (.int .i64 t310) := (blk_cell BK320.out 1).trans rfl
           have hcz24_2 : wc.cell? ⟨gb320, 2, none⟩ = some (.bool t311) := (blk_cell BK320.out 2).trans rfl
           have hcz24_3 : wc.cell? ⟨gb320, 3, none⟩ = some (.int .i64 t312) := (blk_cell BK320.out 3).trans rfl
           have hcz24_4 : wc.cell? ⟨gb320, 4, none⟩ = some (.int .i64 t313) := (blk_cell BK320.out 4).trans rfl
           have hcz24_5 : wc.cell? ⟨gb320, 5, none⟩ = some (.int .i64 t314) := (blk_cell BK320.out 5).trans rfl
           have hcz24_6 : wc.cell? ⟨gb320, 6, none⟩ = some (.int .i64 t315) := (blk_cell BK320.out 6).trans rfl
           have hcz24_7 : wc.cell? ⟨gb320, 7, none⟩ = some (.int .i64 t316) := (blk_cell BK320.out 7).trans rfl
           have hcz24_8 : wc.cell? ⟨gb320, 8, none⟩ = some (.int .i64 t317) := (blk_cell BK320.out 8).trans rfl
           have hcz24_9 : wc.cell? ⟨gb320, 9, none⟩ = some (.string t318) := (blk_cell BK320.out 9).trans rfl
           have hfz24_0 := blk_frozen BK320.out 0
           have hfz24_1 := blk_frozen BK320.out 1
           have hfz24_2 := blk_frozen BK320.out 2
           have hfz24_3 := blk_frozen BK320.out 3
           have hfz24_4 := blk_frozen BK320.out 4
           have hfz24_5 := blk_frozen BK320.out 5
           have hfz24_6 := blk_frozen BK320.out 6
           have hfz24_7 := blk_frozen BK320.out 7
           have hfz24_8 := blk_frozen BK320.out 8
           have hfz24_9 := blk_frozen BK320.out 9
           go_wp2_with (first | ((with_reducible refine gate_callee (f := 13) rfl ?_); refine goesL_ (some 73) rfl rfl Tryd.func13 (by kernel_rfl) rfl #[.agg #[.int .i64 t309, .int .i64 t310, .bool t311, .int .i64 t312, .int .i64 t313, .int .i64 t314, .int .i64 t315, .int .i64 t316, .int .i64 t317, .string t318], .int .i64 (wrap64 (t319 + 1))] rfl (by (try simp only [List.map_toArray, List.map_cons, List.map_nil]); first | done | rfl | (simp only [List.length_drop, List.length_take]; rfl)) ?_; (with_reducible refine (impl_IsOver.calls kj15 t309 t310 t311 t312 t313 t314 t315 t316 t317 t318 (wrap64 (t319 + 1)) true true _ A21.out).mono ?_); rintro e w25 ⟨rfl, hb⟩; refine ⟨_, rfl, ?_⟩; have n0_ := Aside0.mk (blk_below (g := gb320) (o := .cells #[.int .i64 t309, .int .i64 t310, .bool t311, .int .i64 t312, .int .i64 t313, .int .i64 t314, .int .i64 t315, .int .i64 t316, .int .i64 t317, .string t318] 27 (0, 0)) (by (with_reducible repeat (first | refine blk_drewN ?_ _ | refine blk_drew ?_ | refine blk_alloc ?_ _)); exact BK320.out) hb); have n1_ := Aside0.mk (below_step (by repeat (first | (with_reducible first | exact HB.out | apply below_alloc | apply pw_below_drewN | apply below_drew1 | refine below_set ?_ GE320.out) | exact HB.out | (with_reducible exact Below.refl _ _))) hb); clear BK320; clear HB; have BK320 := n0_; have HB := n1_; clear n0_ n1_; (try clear hb); (try clear hb2); (try clear hk); (try clear hi)))
           go_meet
           case rel => exact ⟨_, H', ⟨by have := HJ6.out; have := HJ15.out; first | omega | exact Nat.le_refl _⟩, ⟨by repeat (first | (with_reducible first | exact HB.out | apply below_alloc | apply pw_below_drewN | apply below_drew1 | refine below_set ?_ GE320.out) | exact HB.out | (with_reducible exact Below.refl _ _))⟩⟩
          ·replace c23 := Bool.eq_false_iff.mpr c23
           subst c23
           have H1 : (some false) = some r := by rw [if_neg (show ¬ (false = true) by decide)] at H; exact H
           clear H
           have H := H1
           clear H1
           first
           | (rw [hrb] at H; cases H; done)
           | obtain rfl := Option.some.inj H
             have hcz26_0 : wc.cell? ⟨gb320, 0, none⟩ = some (.int .i64 t309) := (blk_cell BK320.out 0).trans rfl
             have hcz26_1 : wc.cell? ⟨gb320, 1, none⟩ = some (.int .i64 t310) := (blk_cell BK320.out 1).trans rfl
             have hcz26_2 : wc.cell? ⟨gb320, 2, none⟩ = some (.bool t311) := (blk_cell BK320.out 2).trans rfl
             have hcz26_3 : wc.cell? ⟨gb320, 3, none⟩ = some (.int .i64 t312) := (blk_cell BK320.out 3).trans rfl
             have hcz26_4 : wc.cell? ⟨gb320, 4, none⟩ = some (.int .i64 t313) := (blk_cell BK320.out 4).trans rfl
             have hcz26_5 : wc.cell? ⟨gb320, 5, none⟩ = some (.int .i64 t314) := (blk_cell BK320.out 5).trans rfl
             have hcz26_6 : wc.cell? ⟨gb320, 6, none⟩ = some (.int .i64 t315) := (blk_cell BK320.out 6).trans rfl
             have hcz26_7 : wc.cell? ⟨gb320, 7, none⟩ = some (.int .i64 t316) := (blk_cell BK320.out 7).trans rfl
             have hcz26_8 : wc.cell? ⟨gb320, 8, none⟩ = some (.int .i64 t317) := (blk_cell BK320.out 8).trans rfl
             have hcz26_9 : wc.cell? ⟨gb320, 9, none⟩ = some (.string t318) := (blk_cell BK320.out 9).trans rfl
             have hfz26_0 := blk_frozen BK320.out 0
             have hfz26_1 := blk_frozen BK320.out 1
             have hfz26_2 := blk_frozen BK320.out 2
             have hfz26_3 := blk_frozen BK320.out 3
             have hfz26_4 := blk_frozen BK320.out 4
             have hfz26_5 := blk_frozen BK320.out 5
             have hfz26_6 := blk_frozen BK320.out 6
             have hfz26_7 := blk_frozen BK320.out 7
             have hfz26_8 := blk_frozen BK320.out 8
             have hfz26_9 := blk_frozen BK320.out 9
             go_wp2_with (first | ((with_reducible refine gate_callee (f := 13) rfl ?_); refine goesL_ (some 73) rfl rfl Tryd.func13 (by kernel_rfl) rfl #[.agg #[.int .i64 t309, .int .i64 t310, .bool t311, .int .i64 t312, .int .i64 t313, .int .i64 t314, .int .i64 t315, .int .i64 t316, .int .i64 t317, .string t318], .int .i64 (wrap64 (t319 + 1))] rfl (by (try simp only [List.map_toArray, List.map_cons, List.map_nil]); first | done | rfl | (simp only [List.length_drop, List.length_take]; rfl)) ?_; (with_reducible refine (impl_IsOver.calls kj15 t309 t310 t311 t312 t313 t314 t315 t316 t317 t318 (wrap64 (t319 + 1)) false true _ A21.out).mono ?_); rintro e w27 ⟨rfl, hb⟩; refine ⟨_, rfl, ?_⟩; have n0_ := Aside0.mk (blk_below (g := gb320) (o := .cells #[.int .i64 t309, .int .i64 t310, .bool t311, .int .i64 t312, .int .i64 t313, .int .i64 t314, .int .i64 t315, .int .i64 t316, .int .i64 t317, .string t318] 27 (0, 0)) (by (with_reducible repeat (first | refine blk_drewN ?_ _ | refine blk_drew ?_ | refine blk_alloc ?_ _)); exact BK320.out) hb); have n1_ := Aside0.mk (below_step (by repeat (first | (with_reducible first | exact HB.out | apply below_alloc | apply pw_below_drewN | apply below_drew1 | refine below_set ?_ GE320.out) | exact HB.out | (with_reducible exact Below.refl _ _))) hb); clear BK320; clear HB; have BK320 := n0_; have HB := n1_; clear n0_ n1_; (try clear hb); (try clear hb2); (try clear hk); (try clear hi)))
             go_ret
             exact ⟨by first | rfl | (simp [errW_none, errW_some] <;> rfl) | (simp [*, errW_none, errW_some] <;> rfl), by repeat (first | (with_reducible first | exact HB.out | apply below_alloc | apply pw_below_drewN | apply below_drew1 | refine below_set ?_ GE320.out) | exact HB.out | (with_reducible exact Below.refl _ _))⟩
         ·replace c22 := Bool.eq_false_iff.mpr c22
          subst c22
          have H1 : (some false) = some r := by rw [if_neg (show ¬ (false = true) by decide)] at H; exact H
          clear H
          have H := H1
          clear H1
          first
          | (rw [hrb] at H; cases H; done)
          | obtain rfl := Option.some.inj H
            have hcz28_0 : wc.cell? ⟨gb320, 0, none⟩ = some (.int .i64 t309) := (blk_cell BK320.out 0).trans rfl
            have hcz28_1 : wc.cell? ⟨gb320, 1, none⟩ = some (.int .i64 t310) := (blk_cell BK320.out 1).trans rfl
            have hcz28_2 : wc.cell? ⟨gb320, 2, none⟩ = some (.bool t311) := (blk_cell BK320.out 2).trans rfl
            have hcz28_3 : wc.cell? ⟨gb320, 3, none⟩ = some (.int .i64 t312) := (blk_cell BK320.out 3).trans rfl
            have hcz28_4 : wc.cell? ⟨gb320, 4, none⟩ = some (.int .i64 t313) := (blk_cell BK320.out 4).trans rfl
            have hcz28_5 : wc.cell? ⟨gb320, 5, none⟩ = some (.int .i64 t314) := (blk_cell BK320.out 5).trans rfl
            have hcz28_6 : wc.cell? ⟨gb320, 6, none⟩ = some (.int .i64 t315) := (blk_cell BK320.out 6).trans rfl
            have hcz28_7 : wc.cell? ⟨gb320, 7, none⟩ = some (.int .i64 t316) := (blk_cell BK320.out 7).trans rfl
            have hcz28_8 : wc.cell? ⟨gb320, 8, none⟩ = some (.int .i64 t317) := (blk_cell BK320.out 8).trans rfl
            have hcz28_9 : wc.cell? ⟨gb320, 9, none⟩ = some (.string t318) := (blk_cell BK320.out 9).trans rfl
            have hfz28_0 := blk_frozen BK320.out 0
            have hfz28_1 := blk_frozen BK320.out 1
            have hfz28_2 := blk_frozen BK320.out 2
            have hfz28_3 := blk_frozen BK320.out 3
            have hfz28_4 := blk_frozen BK320.out 4
            have hfz28_5 := blk_frozen BK320.out 5
            have hfz28_6 := blk_frozen BK320.out 6
            have hfz28_7 := blk_frozen BK320.out 7
            have hfz28_8 := blk_frozen BK320.out 8
            have hfz28_9 := blk_frozen BK320.out 9
            go_wp2_with (first | ((with_reducible refine gate_callee (f := 13) rfl ?_); refine goesL_ (some 73) rfl rfl Tryd.func13 (by kernel_rfl) rfl #[.agg #[.int .i64 t309, .int .i64 t310, .bool t311, .int .i64 t312, .int .i64 t313, .int .i64 t314, .int .i64 t315, .int .i64 t316, .int .i64 t317, .string t318], .int .i64 (wrap64 (t319 + 1))] rfl (by (try simp only [List.map_toArray, List.map_cons, List.map_nil]); first | done | rfl | (simp only [List.length_drop, List.length_take]; rfl)) ?_; (with_reducible refine (impl_IsOver.calls kj15 t309 t310 t311 t312 t313 t314 t315 t316 t317 t318 (wrap64 (t319 + 1)) t325 false _ A21.out).mono ?_); rintro e w29 ⟨rfl, hb⟩; refine ⟨_, rfl, ?_⟩; have n0_ := Aside0.mk (blk_below (g := gb320) (o := .cells #[.int .i64 t309, .int .i64 t310, .bool t311, .int .i64 t312, .int .i64 t313, .int .i64 t314, .int .i64 t315, .int .i64 t316, .int .i64 t317, .string t318] 27 (0, 0)) (by (with_reducible repeat (first | refine blk_drewN ?_ _ | refine blk_drew ?_ | refine blk_alloc ?_ _)); exact BK320.out) hb); have n1_ := Aside0.mk (below_step (by repeat (first | (with_reducible first | exact HB.out | apply below_alloc | apply pw_below_drewN | apply below_drew1 | refine below_set ?_ GE320.out) | exact HB.out | (with_reducible exact Below.refl _ _))) hb); clear BK320; clear HB; have BK320 := n0_; have HB := n1_; clear n0_ n1_; (try clear hb); (try clear hb2); (try clear hk); (try clear hi)))
            go_ret
            exact ⟨by first | rfl | (simp [errW_none, errW_some] <;> rfl) | (simp [*, errW_none, errW_some] <;> rfl), by repeat (first | (with_reducible first | exact HB.out | apply below_alloc | apply pw_below_drewN | apply below_drew1 | refine below_set ?_ GE320.out) | exact HB.out | (with_reducible exact Below.refl _ _))⟩
        ·replace c20 := Bool.eq_false_iff.mpr c20
         subst c20
         have H1 : (laws_FnLives.j2 kj15 l1) = some r := by rw [if_neg (show ¬ (false = true) by decide)] at H; exact H
         clear H
         have H := H1
         clear H1
         have H' := Aside0.mk H
         clear H
         go_wp2
         go_meet
         case rel => exact ⟨_, H', ⟨by have := HJ6.out; have := HJ15.out; first | omega | exact Nat.le_refl _⟩, ⟨by repeat (first | (with_reducible first | exact HB.out | apply below_alloc | apply pw_below_drewN | apply below_drew1 | refine below_set ?_ GE320.out) | exact HB.out | (with_reducible exact Below.refl _ _))⟩⟩
       case rest =>
        clear HC19
        try clear c1
        try clear c2
        try clear p2
        try clear c3
        try clear c3b0
        try clear c5
        try clear p6
        try clear c12
        try clear c13
        try clear c14
        try clear c14b0
        try clear c14b1
        try clear c14b2
        try clear c15
        try clear c17
        try clear c18
        try clear c20
        try clear c22
        try clear c23
        try clear hcz10_0
        try clear hcz10_1
        try clear hcz10_2
        try clear hcz10_3
        try clear hcz10_4
        try clear hcz10_5
        try clear hcz10_6
        try clear hcz10_7
        try clear hcz10_8
        try clear hcz10_9
        try clear hcz12_0
        try clear hcz12_1
        try clear hcz12_2
        try clear hcz12_3
        try clear hcz12_4
        try clear hcz12_5
        try clear hcz12_6
        try clear hcz12_7
        try clear hcz12_8
        try clear hcz12_9
        try clear hcz24_0
        try clear hcz24_1
        try clear hcz24_2
        try clear hcz24_3
        try clear hcz24_4
        try clear hcz24_5
        try clear hcz24_6
        try clear hcz24_7
        try clear hcz24_8
        try clear hcz24_9
        try clear hcz26_0
        try clear hcz26_1
        try clear hcz26_2
        try clear hcz26_3
        try clear hcz26_4
        try clear hcz26_5
        try clear hcz26_6
        try clear hcz26_7
        try clear hcz26_8
        try clear hcz26_9
        try clear hcz28_0
        try clear hcz28_1
        try clear hcz28_2
        try clear hcz28_3
        try clear hcz28_4
        try clear hcz28_5
        try clear hcz28_6
        try clear hcz28_7
        try clear hcz28_8
        try clear hcz28_9
        try clear hfz10_0
        try clear hfz10_1
        try clear hfz10_2
        try clear hfz10_3
        try clear hfz10_4
        try clear hfz10_5
        try clear hfz10_6
        try clear hfz10_7
        try clear hfz10_8
        try clear hfz10_9
        try clear hfz12_0
        try clear hfz12_1
        try clear hfz12_2
        try clear hfz12_3
        try clear hfz12_4
        try clear hfz12_5
        try clear hfz12_6
        try clear hfz12_7
        try clear hfz12_8
        try clear hfz12_9
        try clear hfz24_0
        try clear hfz24_1
        try clear hfz24_2
        try clear hfz24_3
        try clear hfz24_4
        try clear hfz24_5
        try clear hfz24_6
        try clear hfz24_7
        try clear hfz24_8
        try clear hfz24_9
        try clear hfz26_0
        try clear hfz26_1
        try clear hfz26_2
        try clear hfz26_3
        try clear hfz26_4
        try clear hfz26_5
        try clear hfz26_6
        try clear hfz26_7
        try clear hfz26_8
        try clear hfz26_9
        try clear hfz28_0
        try clear hfz28_1
        try clear hfz28_2
        try clear hfz28_3
        try clear hfz28_4
        try clear hfz28_5
        try clear hfz28_6
        try clear hfz28_7
        try clear hfz28_8
        try clear hfz28_9
        try clear p2
        try clear p6
        obtain ⟨kq, HA, HJ18, HB⟩ := hcut
        cases kq with
        | zero => exact absurd HA.out (by simp [laws_FnLives.j2])
        | succ kj18 =>
         have H := HA.out
         clear HA
         simp only [laws_FnLives.j2] at H
         replace H := Option.bind_eq_some_iff.mp H
         obtain ⟨⟨t327, t328, t329, t330, t331, t332, t333, t334, t335, t336⟩, A300, H⟩ := H
         replace H : ((impl_HopBundle.f kj18 t327 t328 t329 t330 t331 t332 t333 t334 t335 t336).bind fun bt338 => ((spec_HopBundle.f t327 t328 t329 t330 t331 t332 t333 t334 t335 t336).bind fun bt350 => (if (bt338.2.2.2.2.2.2.2.2.2.2 != bt350.2.2.2.2.2.2.2.2.2.2) = true then (laws_FnLives.j3 kj18 l1 bt338.2.2.2.2.2.2.2.2.2.2 true t327 t328 t329 t330 t331 t332 t333 t334 t335 t336 bt338.1 bt338.2.1 bt338.2.2.1 bt338.2.2.2.1 bt338.2.2.2.2.1 bt338.2.2.2.2.2.1 bt338.2.2.2.2.2.2.1 bt338.2.2.2.2.2.2.2.1 bt338.2.2.2.2.2.2.2.2.1 bt338.2.2.2.2.2.2.2.2.2.1) else (laws_FnLives.j3 kj18 l1 bt338.2.2.2.2.2.2.2.2.2.2 (!(bt338.1 == bt350.1) || (!(bt338.2.1 == bt350.2.1) || (!(bt338.2.2.1 == bt350.2.2.1) || (!(bt338.2.2.2.1 == bt350.2.2.2.1) || (!(bt338.2.2.2.2.1 == bt350.2.2.2.2.1) || (!(bt338.2.2.2.2.2.1 == bt350.2.2.2.2.2.1) || (!(bt338.2.2.2.2.2.2.1 == bt350.2.2.2.2.2.2.1) || (!(bt338.2.2.2.2.2.2.2.1 == bt350.2.2.2.2.2.2.2.1) || (!(bt338.2.2.2.2.2.2.2.2.1 == bt350.2.2.2.2.2.2.2.2.1) || (!(bt338.2.2.2.2.2.2.2.2.2.1.toList == bt350.2.2.2.2.2.2.2.2.2.1.toList))))))))))) t327 t328 t329 t330 t331 t332 t333 t334 t335 t336 bt338.1 bt338.2.1 bt338.2.2.1 bt338.2.2.2.1 bt338.2.2.2.2.1 bt338.2.2.2.2.2.1 bt338.2.2.2.2.2.2.1 bt338.2.2.2.2.2.2.2.1 bt338.2.2.2.2.2.2.2.2.1 bt338.2.2.2.2.2.2.2.2.2.1)))) = some r := H
         have A30 := Aside0.mk A300
         clear A300
         replace H := Option.bind_eq_some_iff.mp H
         obtain ⟨⟨t338, t339, t340, t341, t342, t343, t344, t345, t346, t347, t348⟩, A310, H⟩ := H
         replace H : ((spec_HopBundle.f t327 t328 t329 t330 t331 t332 t333 t334 t335 t336).bind fun bt350 => (if (t348 != bt350.2.2.2.2.2.2.2.2.2.2) = true then (laws_FnLives.j3 kj18 l1 t348 true t327 t328 t329 t330 t331 t332 t333 t334 t335 t336 t338 t339 t340 t341 t342 t343 t344 t345 t346 t347) else (laws_FnLives.j3 kj18 l1 t348 (!(t338 == bt350.1) || (!(t339 == bt350.2.1) || (!(t340 == bt350.2.2.1) || (!(t341 == bt350.2.2.2.1) || (!(t342 == bt350.2.2.2.2.1) || (!(t343 == bt350.2.2.2.2.2.1) || (!(t344 == bt350.2.2.2.2.2.2.1) || (!(t345 == bt350.2.2.2.2.2.2.2.1) || (!(t346 == bt350.2.2.2.2.2.2.2.2.1) || (!(t347.toList == bt350.2.2.2.2.2.2.2.2.2.1.toList))))))))))) t327 t328 t329 t330 t331 t332 t333 t334 t335 t336 t338 t339 t340 t341 t342 t343 t344 t345 t346 t347))) = some r := H
         have A31 := Aside0.mk A310
         clear A310
         replace H := Option.bind_eq_some_iff.mp H
         obtain ⟨⟨t350, t351, t352, t353, t354, t355, t356, t357, t358, t359, t360⟩, A320, H⟩ := H
         replace H : (if (t348 != t360) = true then (laws_FnLives.j3 kj18 l1 t348 true t327 t328 t329 t330 t331 t332 t333 t334 t335 t336 t338 t339 t340 t341 t342 t343 t344 t345 t346 t347) else (laws_FnLives.j3 kj18 l1 t348 (!(t338 == t350) || (!(t339 == t351) || (!(t340 == t352) || (!(t341 == t353) || (!(t342 == t354) || (!(t343 == t355) || (!(t344 == t356) || (!(t345 == t357) || (!(t346 == t358) || (!(t347.toList == t359.toList))))))))))) t327 t328 t329 t330 t331 t332 t333 t334 t335 t336 t338 t339 t340 t341 t342 t343 t344 t345 t346 t347)) = some r := H
         have A32 := Aside0.mk A320
         clear A320
         have HC33 := Aside0.mk H
         clear H
         go_upto_region 15 with (first | ((with_reducible refine gate_callee (f := 15) rfl ?_); refine goesL_ (some 83) rfl rfl Tryd.func15 (by kernel_rfl) rfl #[.slice A1 l1.length c1] rfl (by (try simp only [List.map_toArray, List.map_cons, List.map_nil]); first | done | rfl | (simp only [List.length_drop, List.length_take]; rfl)) ?_; (with_reducible refine (spec_DrawHopBundle.calls kj18 _ _ l1 t327 t328 t329 t330 t331 t332 t333 t334 t335 t336 _ ?side1 ?side2 A30.out).mono ?_); (case side1 => repeat (first | exact (Kd.C_below HR1.out HB.out) | (with_reducible refine Kd.C_alloc ?_ _) | (with_reducible refine Kd.C_drewN ?_ _) | (with_reducible refine Kd.C_drew ?_))); (case side2 => exact HC1.out); rintro e w34 ⟨rfl, hb⟩; refine ⟨_, rfl, ?_⟩; have n1_ := Aside0.mk (below_step (by repeat (first | (with_reducible first | exact HB.out | apply below_alloc | apply pw_below_drewN | apply below_drew1 | refine below_set ?_ GE320.out) | exact HB.out | (with_reducible exact Below.refl _ _))) hb); clear HB; have HB := n1_; clear n1_; (try clear hb); (try clear hb2); (try clear hk); (try clear hi)) | ((with_reducible refine gate_dst (N := 13) rfl ?_); refine box_event ?hg (N := 13) ?hd (cs := #[.int .i64 0, .int .i64 0, .bool false, .int .i64 0, .int .i64 0, .int .i64 0, .int .i64 0, .int .i64 0, .int .i64 0, .string (⟨#[]⟩ : ByteArray)]) (t := 27) ?hr ?_; (case hd => rfl); (case hg => rfl); (case hr => first | (go_simp; done) | (go_simp; rfl)); intro gb337 hg w35 hbox hb; have n1_ := Aside0.mk (below_step (by repeat (first | (with_reducible first | exact HB.out | apply below_alloc | apply pw_below_drewN | apply below_drew1 | refine below_set ?_ GE320.out) | exact HB.out | (with_reducible exact Below.refl _ _))) hb); have n2_ := Aside0.mk (hbox); have n3_ := Aside0.mk ((by rw [hg]; exact (below_size (by repeat (first | (with_reducible first | exact HB.out | apply below_alloc | apply pw_below_drewN | apply below_drew1 | refine below_set ?_ GE320.out) | exact HB.out | (with_reducible exact Below.refl _ _)))) : w.heap.size ≤ gb337)); have n4_ := Aside0.mk ((by rw [hg]; exact (below_size (by repeat (first | (with_reducible first | exact HB.out | apply below_alloc | apply pw_below_drewN | apply below_drew1 | refine below_set ?_ GE320.out) | exact HB.out | (with_reducible exact Below.refl _ _)))) : w.heap.size ≤ gb337)); clear HB; have HB := n1_; have BK337 := n2_; have GW337 := n3_; have GE337 := n4_; clear n1_ n2_ n3_ n4_; clear hb hbox hg; have hcz37_0 : w35.cell? ⟨gb337, 0, none⟩ = some (.int .i64 0) := (blk_cell BK337.out 0).trans rfl; have hcz37_1 : w35.cell? ⟨gb337, 1, none⟩ = some (.int .i64 0) := (blk_cell BK337.out 1).trans rfl; have hcz37_2 : w35.cell? ⟨gb337, 2, none⟩ = some (.bool false) := (blk_cell BK337.out 2).trans rfl; have hcz37_3 : w35.cell? ⟨gb337, 3, none⟩ = some (.int .i64 0) := (blk_cell BK337.out 3).trans rfl; have hcz37_4 : w35.cell? ⟨gb337, 4, none⟩ = some (.int .i64 0) := (blk_cell BK337.out 4).trans rfl; have hcz37_5 : w35.cell? ⟨gb337, 5, none⟩ = some (.int .i64 0) := (blk_cell BK337.out 5).trans rfl; have hcz37_6 : w35.cell? ⟨gb337, 6, none⟩ = some (.int .i64 0) := (blk_cell BK337.out 6).trans rfl; have hcz37_7 : w35.cell? ⟨gb337, 7, none⟩ = some (.int .i64 0) := (blk_cell BK337.out 7).trans rfl; have hcz37_8 : w35.cell? ⟨gb337, 8, none⟩ = some (.int .i64 0) := (blk_cell BK337.out 8).trans rfl; have hcz37_9 : w35.cell? ⟨gb337, 9, none⟩ = some (.string (⟨#[]⟩ : ByteArray)) := (blk_cell BK337.out 9).trans rfl; have hfz37_0 := blk_frozen BK337.out 0; have hfz37_1 := blk_frozen BK337.out 1; have hfz37_2 := blk_frozen BK337.out 2; have hfz37_3 := blk_frozen BK337.out 3; have hfz37_4 := blk_frozen BK337.out 4; have hfz37_5 := blk_frozen BK337.out 5; have hfz37_6 := blk_frozen BK337.out 6; have hfz37_7 := blk_frozen BK337.out 7; have hfz37_8 := blk_frozen BK337.out 8; have hfz37_9 := blk_frozen BK337.out 9) | ((with_reducible refine gate_callee (f := 16) rfl ?_); refine goesL_ (some 86) rfl rfl Tryd.func16 (by kernel_rfl) rfl #[.agg #[.int .i64 t327, .int .i64 t328, .bool t329, .int .i64 t330, .int .i64 t331, .int .i64 t332, .int .i64 t333, .int .i64 t334, .int .i64 t335, .string t336]] rfl (by (try simp only [List.map_toArray, List.map_cons, List.map_nil]); first | done | rfl | (simp only [List.length_drop, List.length_take]; rfl)) ?_; (with_reducible refine (impl_HopBundle.calls kj18 t327 t328 t329 t330 t331 t332 t333 t334 t335 t336 t338 t339 t340 t341 t342 t343 t344 t345 t346 t347 t348 _ A31.out).mono ?_); rintro e w38 ⟨rfl, hb⟩; refine ⟨_, rfl, ?_⟩; have n1_ := Aside0.mk (blk_below (g := gb337) (o := .cells #[.int .i64 t327, .int .i64 t328, .bool t329, .int .i64 t330, .int .i64 t331, .int .i64 t332, .int .i64 t333, .int .i64 t334, .int .i64 t335, .string t336] 27 (0, 0)) (by (with_reducible repeat (first | refine blk_drewN ?_ _ | refine blk_drew ?_ | refine blk_alloc ?_ _)); refine blk_put (cs := #[.int .i64 t327, .int .i64 t328, .bool t329, .int .i64 t330, .int .i64 t331, .int .i64 t332, .int .i64 t333, .int .i64 t334, .int .i64 t335, .string (⟨#[]⟩ : ByteArray)]) ?_ 9 _ rfl; (with_reducible repeat (first | refine blk_drewN ?_ _ | refine blk_drew ?_ | refine blk_alloc ?_ _)); refine blk_put (cs := #[.int .i64 t327, .int .i64 t328, .bool t329, .int .i64 t330, .int .i64 t331, .int .i64 t332, .int .i64 t333, .int .i64 t334, .int .i64 0, .string (⟨#[]⟩ : ByteArray)]) ?_ 8 _ rfl; (with_reducible repeat (first | refine blk_drewN ?_ _ | refine blk_drew ?_ | refine blk_alloc ?_ _)); refine blk_put (cs := #[.int .i64 t327, .int .i64 t328, .bool t329, .int .i64 t330, .int .i64 t331, .int .i64 t332, .int .i64 t333, .int .i64 0, .int .i64 0, .string (⟨#[]⟩ : ByteArray)]) ?_ 7 _ rfl; (with_reducible repeat (first | refine blk_drewN ?_ _ | refine blk_drew ?_ | refine blk_alloc ?_ _)); refine blk_put (cs := #[.int .i64 t327, .int .i64 t328, .bool t329, .int .i64 t330, .int .i64 t331, .int .i64 t332, .int .i64 0, .int .i64 0, .int .i64 0, .string (⟨#[]⟩ : ByteArray)]) ?_ 6 _ rfl; (with_reducible repeat (first | refine blk_drewN ?_ _ | refine blk_drew ?_ | refine blk_alloc ?_ _)); refine blk_put (cs := #[.int .i64 t327, .int .i64 t328, .bool t329, .int .i64 t330, .int .i64 t331, .int .i64 0, .int .i64 0, .int .i64 0, .int .i64 0, .string (⟨#[]⟩ : ByteArray)]) ?_ 5 _ rfl; (with_reducible repeat (first | refine blk_drewN ?_ _ | refine blk_drew ?_ | refine blk_alloc ?_ _)); refine blk_put (cs := #[.int .i64 t327, .int .i64 t328, .bool t329, .int .i64 t330, .int .i64 0, .int .i64 0, .int .i64 0, .int .i64 0, .int .i64 0, .string (⟨#[]⟩ : ByteArray)]) ?_ 4 _ rfl; (with_reducible repeat (first | refine blk_drewN ?_ _ | refine blk_drew ?_ | refine blk_alloc ?_ _)); refine blk_put (cs := #[.int .i64 t327, .int .i64 t328, .bool t329, .int .i64 0, .int .i64 0, .int .i64 0, .int .i64 0, .int .i64 0, .int .i64 0, .string (⟨#[]⟩ : ByteArray)]) ?_ 3 _ rfl; (with_reducible repeat (first | refine blk_drewN ?_ _ | refine blk_drew ?_ | refine blk_alloc ?_ _)); refine blk_put (cs := #[.int .i64 t327, .int .i64 t328, .bool false, .int .i64 0, .int .i64 0, .int .i64 0, .int .i64 0, .int .i64 0, .int .i64 0, .string (⟨#[]⟩ : ByteArray)]) ?_ 2 _ rfl; (with_reducible repeat (first | refine blk_drewN ?_ _ | refine blk_drew ?_ | refine blk_alloc ?_ _)); refine blk_put (cs := #[.int .i64 t327, .int .i64 0, .bool false, .int .i64 0, .int .i64 0, .int .i64 0, .int .i64 0, .int .i64 0, .int .i64 0, .string (⟨#[]⟩ : ByteArray)]) ?_ 1 _ rfl; (with_reducible repeat (first | refine blk_drewN ?_ _ | refine blk_drew ?_ | refine blk_alloc ?_ _)); refine blk_put (cs := #[.int .i64 0, .int .i64 0, .bool false, .int .i64 0, .int .i64 0, .int .i64 0, .int .i64 0, .int .i64 0, .int .i64 0, .string (⟨#[]⟩ : ByteArray)]) ?_ 0 _ rfl; (with_reducible repeat (first | refine blk_drewN ?_ _ | refine blk_drew ?_ | refine blk_alloc ?_ _)); exact BK337.out) hb); have n2_ := Aside0.mk (below_step (by repeat (first | (with_reducible first | exact HB.out | apply below_alloc | apply pw_below_drewN | apply below_drew1 | refine below_set ?_ GE320.out | refine below_set ?_ GE337.out) | exact HB.out | (with_reducible exact Below.refl _ _))) hb); clear BK337; clear HB; have BK337 := n1_; have HB := n2_; clear n1_ n2_; (try clear hb); (try clear hb2); (try clear hk); (try clear hi)) | ((with_reducible refine gate_dst (N := 14) rfl ?_); refine box_event ?hg (N := 14) ?hd (cs := #[.int .i64 0, .int .i64 0, .bool false, .int .i64 0, .int .i64 0, .int .i64 0, .int .i64 0, .int .i64 0, .int .i64 0, .string (⟨#[]⟩ : ByteArray)]) (t := 27) ?hr ?_; (case hd => rfl); (case hg => rfl); (case hr => first | (go_simp; done) | (go_simp; rfl)); intro gb349 hg w39 hbox hb; have n1_ := Aside0.mk (blk_below (g := gb337) (o := .cells #[.int .i64 t327, .int .i64 t328, .bool t329, .int .i64 t330, .int .i64 t331, .int .i64 t332, .int .i64 t333, .int .i64 t334, .int .i64 t335, .string t336] 27 (0, 0)) (by (with_reducible repeat (first | refine blk_drewN ?_ _ | refine blk_drew ?_ | refine blk_alloc ?_ _)); exact BK337.out) hb); have n2_ := Aside0.mk (below_step (by repeat (first | (with_reducible first | exact HB.out | apply below_alloc | apply pw_below_drewN | apply below_drew1 | refine below_set ?_ GE320.out | refine below_set ?_ GE337.out) | exact HB.out | (with_reducible exact Below.refl _ _))) hb); have n3_ := Aside0.mk (hbox); have n4_ := Aside0.mk ((by rw [hg]; exact (below_size (by repeat (first | (with_reducible first | exact HB.out | apply below_alloc | apply pw_below_drewN | apply below_drew1 | refine below_set ?_ GE320.out | refine below_set ?_ GE337.out) | exact HB.out | (with_reducible exact Below.refl _ _)))) : w.heap.size ≤ gb349)); have n5_ := Aside0.mk ((by rw [hg]; exact (below_size (by repeat (first | (with_reducible first | exact HB.out | apply below_alloc | apply pw_below_drewN | apply below_drew1 | refine below_set ?_ GE320.out | refine below_set ?_ GE337.out) | exact HB.out | (with_reducible exact Below.refl _ _)))) : w.heap.size ≤ gb349)); have n8_ := Aside0.mk ((by rw [hg]; exact Nat.ne_of_lt (blk_lt (g := gb337) (o := .cells #[.int .i64 t327, .int .i64 t328, .bool t329, .int .i64 t330, .int .i64 t331, .int .i64 t332, .int .i64 t333, .int .i64 t334, .int .i64 t335, .string t336] 27 (0, 0)) (by (with_reducible repeat (first | refine blk_drewN ?_ _ | refine blk_drew ?_ | refine blk_alloc ?_ _)); exact BK337.out)) : gb337 ≠ gb349)); have n9_ := Aside0.mk ((by rw [hg]; exact Nat.ne_of_gt (blk_lt (g := gb337) (o := .cells #[.int .i64 t327, .int .i64 t328, .bool t329, .int .i64 t330, .int .i64 t331, .int .i64 t332, .int .i64 t333, .int .i64 t334, .int .i64 t335, .string t336] 27 (0, 0)) (by (with_reducible repeat (first | refine blk_drewN ?_ _ | refine blk_drew ?_ | refine blk_alloc ?_ _)); exact BK337.out)) : gb349 ≠ gb337)); clear BK337; clear HB; have BK337 := n1_; have HB := n2_; have BK349 := n3_; have GW349 := n4_; have GE349 := n5_; have NB337_349 := n8_; have NB349_337 := n9_; clear n1_ n2_ n3_ n4_ n5_ n8_ n9_; clear hb hbox hg; have hnb41 := NB349_337.out; have hnc41 := NB337_349.out; have hcz42_0 : w39.cell? ⟨gb349, 0, none⟩ = some (.int .i64 0) := (blk_cell BK349.out 0).trans rfl; have hcz42_1 : w39.cell? ⟨gb349, 1, none⟩ = some (.int .i64 0) := (blk_cell BK349.out 1).trans rfl; have hcz42_2 : w39.cell? ⟨gb349, 2, none⟩ = some (.bool false) := (blk_cell BK349.out 2).trans rfl; have hcz42_3 : w39.cell? ⟨gb349, 3, none⟩ = some (.int .i64 0) := (blk_cell BK349.out 3).trans rfl; have hcz42_4 : w39.cell? ⟨gb349, 4, none⟩ = some (.int .i64 0) := (blk_cell BK349.out 4).trans rfl; have hcz42_5 : w39.cell? ⟨gb349, 5, none⟩ = some (.int .i64 0) := (blk_cell BK349.out 5).trans rfl; have hcz42_6 : w39.cell? ⟨gb349, 6, none⟩ = some (.int .i64 0) := (blk_cell BK349.out 6).trans rfl; have hcz42_7 : w39.cell? ⟨gb349, 7, none⟩ = some (.int .i64 0) := (blk_cell BK349.out 7).trans rfl; have hcz42_8 : w39.cell? ⟨gb349, 8, none⟩ = some (.int .i64 0) := (blk_cell BK349.out 8).trans rfl; have hcz42_9 : w39.cell? ⟨gb349, 9, none⟩ = some (.string (⟨#[]⟩ : ByteArray)) := (blk_cell BK349.out 9).trans rfl; have hfz42_0 := blk_frozen BK349.out 0; have hfz42_1 := blk_frozen BK349.out 1; have hfz42_2 := blk_frozen BK349.out 2; have hfz42_3 := blk_frozen BK349.out 3; have hfz42_4 := blk_frozen BK349.out 4; have hfz42_5 := blk_frozen BK349.out 5; have hfz42_6 := blk_frozen BK349.out 6; have hfz42_7 := blk_frozen BK349.out 7; have hfz42_8 := blk_frozen BK349.out 8; have hfz42_9 := blk_frozen BK349.out 9; have hcz43_0 : w39.cell? ⟨gb337, 0, none⟩ = some (.int .i64 t327) := (blk_cell BK337.out 0).trans rfl; have hcz43_1 : w39.cell? ⟨gb337, 1, none⟩ = some (.int .i64 t328) := (blk_cell BK337.out 1).trans rfl; have hcz43_2 : w39.cell? ⟨gb337, 2, none⟩ = some (.bool t329) := (blk_cell BK337.out 2).trans rfl; have hcz43_3 : w39.cell? ⟨gb337, 3, none⟩ = some (.int .i64 t330) := (blk_cell BK337.out 3).trans rfl; have hcz43_4 : w39.cell? ⟨gb337, 4, none⟩ = some (.int .i64 t331) := (blk_cell BK337.out 4).trans rfl; have hcz43_5 : w39.cell? ⟨gb337, 5, none⟩ = some (.int .i64 t332) := (blk_cell BK337.out 5).trans rfl; have hcz43_6 : w39.cell? ⟨gb337, 6, none⟩ = some (.int .i64 t333) := (blk_cell BK337.out 6).trans rfl; have hcz43_7 : w39.cell? ⟨gb337, 7, none⟩ = some (.int .i64 t334) := (blk_cell BK337.out 7).trans rfl; have hcz43_8 : w39.cell? ⟨gb337, 8, none⟩ = some (.int .i64 t335) := (blk_cell BK337.out 8).trans rfl; have hcz43_9 : w39.cell? ⟨gb337, 9, none⟩ = some (.string t336) := (blk_cell BK337.out 9).trans rfl; have hfz43_0 := blk_frozen BK337.out 0; have hfz43_1 := blk_frozen BK337.out 1; have hfz43_2 := blk_frozen BK337.out 2; have hfz43_3 := blk_frozen BK337.out 3; have hfz43_4 := blk_frozen BK337.out 4; have hfz43_5 := blk_frozen BK337.out 5; have hfz43_6 := blk_frozen BK337.out 6; have hfz43_7 := blk_frozen BK337.out 7; have hfz43_8 := blk_frozen BK337.out 8; have hfz43_9 := blk_frozen BK337.out 9) | ((with_reducible refine gate_callee (f := 17) rfl ?_); refine goesL_ (some 91) rfl rfl Tryd.func17 (by kernel_rfl) rfl #[.agg #[.int .i64 t327, .int .i64 t328, .bool t329, .int .i64 t330, .int .i64 t331, .int .i64 t332, .int .i64 t333, .int .i64 t334, .int .i64 t335, .string t336]] rfl (by (try simp only [List.map_toArray, List.map_cons, List.map_nil]); first | done | rfl | (simp only [List.length_drop, List.length_take]; rfl)) ?_; (with_reducible refine (spec_HopBundle.calls t327 t328 t329 t330 t331 t332 t333 t334 t335 t336 t350 t351 t352 t353 t354 t355 t356 t357 t358 t359 t360 _ A32.out).mono ?_); rintro e w44 ⟨rfl, hb⟩; refine ⟨_, rfl, ?_⟩; have n1_ := Aside0.mk (blk_below (g := gb337) (o := .cells #[.int .i64 t327, .int .i64 t328, .bool t329, .int .i64 t330, .int .i64 t331, .int .i64 t332, .int .i64 t333, .int .i64 t334, .int .i64 t335, .string t336] 27 (0, 0)) (by (with_reducible repeat (first | refine blk_drewN ?_ _ | refine blk_drew ?_ | refine blk_alloc ?_ _)); refine blk_far ?_ NB337_349.out _; (with_reducible repeat (first | refine blk_drewN ?_ _ | refine blk_drew ?_ | refine blk_alloc ?_ _)); refine blk_far ?_ NB337_349.out _; (with_reducible repeat (first | refine blk_drewN ?_ _ | refine blk_drew ?_ | refine blk_alloc ?_ _)); refine blk_far ?_ NB337_349.out _; (with_reducible repeat (first | refine blk_drewN ?_ _ | refine blk_drew ?_ | refine blk_alloc ?_ _)); refine blk_far ?_ NB337_349.out _; (with_reducible repeat (first | refine blk_drewN ?_ _ | refine blk_drew ?_ | refine blk_alloc ?_ _)); refine blk_far ?_ NB337_349.out _; (with_reducible repeat (first | refine blk_drewN ?_ _ | refine blk_drew ?_ | refine blk_alloc ?_ _)); refine blk_far ?_ NB337_349.out _; (with_reducible repeat (first | refine blk_drewN ?_ _ | refine blk_drew ?_ | refine blk_alloc ?_ _)); refine blk_far ?_ NB337_349.out _; (with_reducible repeat (first | refine blk_drewN ?_ _ | refine blk_drew ?_ | refine blk_alloc ?_ _)); refine blk_far ?_ NB337_349.out _; (with_reducible repeat (first | refine blk_drewN ?_ _ | refine blk_drew ?_ | refine blk_alloc ?_ _)); refine blk_far ?_ NB337_349.out _; (with_reducible repeat (first | refine blk_drewN ?_ _ | refine blk_drew ?_ | refine blk_alloc ?_ _)); refine blk_far ?_ NB337_349.out _; (with_reducible repeat (first | refine blk_drewN ?_ _ | refine blk_drew ?_ | refine blk_alloc ?_ _)); exact BK337.out) hb); have n2_ := Aside0.mk (blk_below (g := gb349) (o := .cells #[.int .i64 t338, .int .i64 t339, .bool t340, .int .i64 t341, .int .i64 t342, .int .i64 t343, .int .i64 t344, .int .i64 t345, .int .i64 t346, .string t347] 27 (0, 0)) (by (with_reducible repeat (first | refine blk_drewN ?_ _ | refine blk_drew ?_ | refine blk_alloc ?_ _)); refine blk_put (cs := #[.int .i64 t338, .int .i64 t339, .bool t340, .int .i64 t341, .int .i64 t342, .int .i64 t343, .int .i64 t344, .int .i64 t345, .int .i64 t346, .string (⟨#[]⟩ : ByteArray)]) ?_ 9 _ rfl; (with_reducible repeat (first | refine blk_drewN ?_ _ | refine blk_drew ?_ | refine blk_alloc ?_ _)); refine blk_put (cs := #[.int .i64 t338, .int .i64 t339, .bool t340, .int .i64 t341, .int .i64 t342, .int .i64 t343, .int .i64 t344, .int .i64 t345, .int .i64 0, .string (⟨#[]⟩ : ByteArray)]) ?_ 8 _ rfl; (with_reducible repeat (first | refine blk_drewN ?_ _ | refine blk_drew ?_ | refine blk_alloc ?_ _)); refine blk_put (cs := #[.int .i64 t338, .int .i64 t339, .bool t340, .int .i64 t341, .int .i64 t342, .int .i64 t343, .int .i64 t344, .int .i64 0, .int .i64 0, .string (⟨#[]⟩ : ByteArray)]) ?_ 7 _ rfl; (with_reducible repeat (first | refine blk_drewN ?_ _ | refine blk_drew ?_ | refine blk_alloc ?_ _)); refine blk_put (cs := #[.int .i64 t338, .int .i64 t339, .bool t340, .int .i64 t341, .int .i64 t342, .int .i64 t343, .int .i64 0, .int .i64 0, .int .i64 0, .string (⟨#[]⟩ : ByteArray)]) ?_ 6 _ rfl; (with_reducible repeat (first | refine blk_drewN ?_ _ | refine blk_drew ?_ | refine blk_alloc ?_ _)); refine blk_put (cs := #[.int .i64 t338, .int .i64 t339, .bool t340, .int .i64 t341, .int .i64 t342, .int .i64 0, .int .i64 0, .int .i64 0, .int .i64 0, .string (⟨#[]⟩ : ByteArray)]) ?_ 5 _ rfl; (with_reducible repeat (first | refine blk_drewN ?_ _ | refine blk_drew ?_ | refine blk_alloc ?_ _)); refine blk_put (cs := #[.int .i64 t338, .int .i64 t339, .bool t340, .int .i64 t341, .int .i64 0, .int .i64 0, .int .i64 0, .int .i64 0, .int .i64 0, .string (⟨#[]⟩ : ByteArray)]) ?_ 4 _ rfl; (with_reducible repeat (first | refine blk_drewN ?_ _ | refine blk_drew ?_ | refine blk_alloc ?_ _)); refine blk_put (cs := #[.int .i64 t338, .int .i64 t339, .bool t340, .int .i64 0, .int .i64 0, .int .i64 0, .int .i64 0, .int .i64 0, .int .i64 0, .string (⟨#[]⟩ : ByteArray)]) ?_ 3 _ rfl; (with_reducible repeat (first | refine blk_drewN ?_ _ | refine blk_drew ?_ | refine blk_alloc ?_ _)); refine blk_put (cs := #[.int .i64 t338, .int .i64 t339, .bool false, .int .i64 0, .int .i64 0, .int .i64 0, .int .i64 0, .int .i64 0, .int .i64 0, .string (⟨#[]⟩ : ByteArray)]) ?_ 2 _ rfl; (with_reducible repeat (first | refine blk_drewN ?_ _ | refine blk_drew ?_ | refine blk_alloc ?_ _)); refine blk_put (cs := #[.int .i64 t338, .int .i64 0, .bool false, .int .i64 0, .int .i64 0, .int .i64 0, .int .i64 0, .int .i64 0, .int .i64 0, .string (⟨#[]⟩ : ByteArray)]) ?_ 1 _ rfl; (with_reducible repeat (first | refine blk_drewN ?_ _ | refine blk_drew ?_ | refine blk_alloc ?_ _)); refine blk_put (cs := #[.int .i64 0, .int .i64 0, .bool false, .int .i64 0, .int .i64 0, .int .i64 0, .int .i64 0, .int .i64 0, .int .i64 0, .string (⟨#[]⟩ : ByteArray)]) ?_ 0 _ rfl; (with_reducible repeat (first | refine blk_drewN ?_ _ | refine blk_drew ?_ | refine blk_alloc ?_ _)); exact BK349.out) hb); have n3_ := Aside0.mk (below_step (by repeat (first | (with_reducible first | exact HB.out | apply below_alloc | apply pw_below_drewN | apply below_drew1 | refine below_set ?_ GE320.out | refine below_set ?_ GE337.out | refine below_set ?_ GE349.out) | exact HB.out | (with_reducible exact Below.refl _ _))) hb); clear BK337; clear BK349; clear HB; have BK337 := n1_; have BK349 := n2_; have HB := n3_; clear n1_ n2_ n3_; (try clear hb); (try clear hb2); (try clear hk); (try clear hi)) | ((with_reducible refine gate_dst (N := 16) rfl ?_); refine box_event ?hg (N := 16) ?hd (cs := #[.int .i64 0, .int .i64 0, .bool false, .int .i64 0, .int .i64 0, .int .i64 0, .int .i64 0, .int .i64 0, .int .i64 0, .string (⟨#[]⟩ : ByteArray)]) (t := 27) ?hr ?_; (case hd => rfl); (case hg => rfl); (case hr => first | (go_simp; done) | (go_simp; rfl)); intro gb361 hg w45 hbox hb; have n1_ := Aside0.mk (blk_below (g := gb337) (o := .cells #[.int .i64 t327, .int .i64 t328, .bool t329, .int .i64 t330, .int .i64 t331, .int .i64 t332, .int .i64 t333, .int .i64 t334, .int .i64 t335, .string t336] 27 (0, 0)) (by (with_reducible repeat (first | refine blk_drewN ?_ _ | refine blk_drew ?_ | refine blk_alloc ?_ _)); exact BK337.out) hb); have n2_ := Aside0.mk (blk_below (g := gb349) (o := .cells #[.int .i64 t338, .int .i64 t339, .bool t340, .int .i64 t341, .int .i64 t342, .int .i64 t343, .int .i64 t344, .int .i64 t345, .int .i64 t346, .string t347] 27 (0, 0)) (by (with_reducible repeat (first | refine blk_drewN ?_ _ | refine blk_drew ?_ | refine blk_alloc ?_ _)); exact BK349.out) hb); have n3_ := Aside0.mk (below_step (by repeat (first | (with_reducible first | exact HB.out | apply below_alloc | apply pw_below_drewN | apply below_drew1 | refine below_set ?_ GE320.out | refine below_set ?_ GE337.out | refine below_set ?_ GE349.out) | exact HB.out | (with_reducible exact Below.refl _ _))) hb); have n4_ := Aside0.mk (hbox); have n5_ := Aside0.mk ((by rw [hg]; exact (below_size (by repeat (first | (with_reducible first | exact HB.out | apply below_alloc | apply pw_below_drewN | apply below_drew1 | refine below_set ?_ GE320.out | refine below_set ?_ GE337.out | refine below_set ?_ GE349.out) | exact HB.out | (with_reducible exact Below.refl _ _)))) : w.heap.size ≤ gb361)); have n6_ := Aside0.mk ((by rw [hg]; exact (below_size (by repeat (first | (with_reducible first | exact HB.out | apply below_alloc | apply pw_below_drewN | apply below_drew1 | refine below_set ?_ GE320.out | refine below_set ?_ GE337.out | refine below_set ?_ GE349.out) | exact HB.out | (with_reducible exact Below.refl _ _)))) : w.heap.size ≤ gb361)); have n9_ := Aside0.mk ((by rw [hg]; exact Nat.ne_of_lt (blk_lt (g := gb337) (o := .cells #[.int .i64 t327, .int .i64 t328, .bool t329, .int .i64 t330, .int .i64 t331, .int .i64 t332, .int .i64 t333, .int .i64 t334, .int .i64 t335, .string t336] 27 (0, 0)) (by (with_reducible repeat (first | refine blk_drewN ?_ _ | refine blk_drew ?_ | refine blk_alloc ?_ _)); exact BK337.out)) : gb337 ≠ gb361)); have n10_ := Aside0.mk ((by rw [hg]; exact Nat.ne_of_gt (blk_lt (g := gb337) (o := .cells #[.int .i64 t327, .int .i64 t328, .bool t329, .int .i64 t330, .int .i64 t331, .int .i64 t332, .int .i64 t333, .int .i64 t334, .int .i64 t335, .string t336] 27 (0, 0)) (by (with_reducible repeat (first | refine blk_drewN ?_ _ | refine blk_drew ?_ | refine blk_alloc ?_ _)); exact BK337.out)) : gb361 ≠ gb337)); have n11_ := Aside0.mk ((by rw [hg]; exact Nat.ne_of_lt (blk_lt (g := gb349) (o := .cells #[.int .i64 t338, .int .i64 t339, .bool t340, .int .i64 t341, .int .i64 t342, .int .i64 t343, .int .i64 t344, .int .i64 t345, .int .i64 t346, .string t347] 27 (0, 0)) (by (with_reducible repeat (first | refine blk_drewN ?_ _ | refine blk_drew ?_ | refine blk_alloc ?_ _)); exact BK349.out)) : gb349 ≠ gb361)); have n12_ := Aside0.mk ((by rw [hg]; exact Nat.ne_of_gt (blk_lt (g := gb349) (o := .cells #[.int .i64 t338, .int .i64 t339, .bool t340, .int .i64 t341, .int .i64 t342, .int .i64 t343, .int .i64 t344, .int .i64 t345, .int .i64 t346, .string t347] 27 (0, 0)) (by (with_reducible repeat (first | refine blk_drewN ?_ _ | refine blk_drew ?_ | refine blk_alloc ?_ _)); exact BK349.out)) : gb361 ≠ gb349)); clear BK337; clear BK349; clear HB; have BK337 := n1_; have BK349 := n2_; have HB := n3_; have BK361 := n4_; have GW361 := n5_; have GE361 := n6_; have NB337_361 := n9_; have NB361_337 := n10_; have NB349_361 := n11_; have NB361_349 := n12_; clear n1_ n2_ n3_ n4_ n5_ n6_ n9_ n10_ n11_ n12_; clear hb hbox hg; have hnb47 := NB361_337.out; have hnc47 := NB337_361.out; have hnb48 := NB361_349.out; have hnc48 := NB349_361.out; have hcz49_0 : w45.cell? ⟨gb361, 0, none⟩ = some (.int .i64 0) := (blk_cell BK361.out 0).trans rfl; have hcz49_1 : w45.cell? ⟨gb361, 1, none⟩ = some (.int .i64 0) := (blk_cell BK361.out 1).trans rfl; have hcz49_2 : w45.cell? ⟨gb361, 2, none⟩ = some (.bool false) := (blk_cell BK361.out 2).trans rfl; have hcz49_3 : w45.cell? ⟨gb361, 3, none⟩ = some (.int .i64 0) := (blk_cell BK361.out 3).trans rfl; have hcz49_4 : w45.cell? ⟨gb361, 4, none⟩ = some (.int .i64 0) := (blk_cell BK361.out 4).trans rfl; have hcz49_5 : w45.cell? ⟨gb361, 5, none⟩ = some (.int .i64 0) := (blk_cell BK361.out 5).trans rfl; have hcz49_6 : w45.cell? ⟨gb361, 6, none⟩ = some (.int .i64 0) := (blk_cell BK361.out 6).trans rfl; have hcz49_7 : w45.cell? ⟨gb361, 7, none⟩ = some (.int .i64 0) := (blk_cell BK361.out 7).trans rfl; have hcz49_8 : w45.cell? ⟨gb361, 8, none⟩ = some (.int .i64 0) := (blk_cell BK361.out 8).trans rfl; have hcz49_9 : w45.cell? ⟨gb361, 9, none⟩ = some (.string (⟨#[]⟩ : ByteArray)) := (blk_cell BK361.out 9).trans rfl; have hfz49_0 := blk_frozen BK361.out 0; have hfz49_1 := blk_frozen BK361.out 1; have hfz49_2 := blk_frozen BK361.out 2; have hfz49_3 := blk_frozen BK361.out 3; have hfz49_4 := blk_frozen BK361.out 4; have hfz49_5 := blk_frozen BK361.out 5; have hfz49_6 := blk_frozen BK361.out 6; have hfz49_7 := blk_frozen BK361.out 7; have hfz49_8 := blk_frozen BK361.out 8; have hfz49_9 := blk_frozen BK361.out 9))
         (try simp only [Act.put, List.setIfInBounds_toArray, List.set_cons_zero, List.set_cons_succ])
         go_cut [101] (fun v101 wc => ∃ (kq : Nat) (x101_32 : Bool), v101 = .bool x101_32 ∧ Aside0 (laws_FnLives.j3 kq l1 t348 x101_32 t327 t328 t329 t330 t331 t332 t333 t334 t335 t336 t338 t339 t340 t341 t342 t343 t344 t345 t346 t347 = some r) ∧ Aside0 (kq ≤ kj18) ∧ Aside0 (wc.heap[gb337]? = some (.cells #[.int .i64 t327, .int .i64 t328, .bool t329, .int .i64 t330, .int .i64 t331, .int .i64 t332, .int .i64 t333, .int .i64 t334, .int .i64 t335, .string t336] 27 (0, 0))) ∧ Aside0 (wc.heap[gb349]? = some (.cells #[.int .i64 t338, .int .i64 t339, .bool t340, .int .i64 t341, .int .i64 t342, .int .i64 t343, .int .i64 t344, .int .i64 t345, .int .i64 t346, .string t347] 27 (0, 0))) ∧ Aside0 (Below w.heap.size w wc))
         case first =>
          have H := HC33.out
          clear HC33
          by_cases c50 : (t348 != t360) = true
          ·rw [if_pos c50] at H
           have c50b0 : (t348 != t360) = true := c50
           (try (have c50b1 : decide (t348 = t360) = false := by simpa using c50))
           (try (have c50b2 : (t348 == t360) = false := by simpa using c50))
           (try (have c50b3 : ¬ (t348 = t360) := by simpa using c50))
           clear c50
           (first | rw [c50b0] | (simp only [i64_w, i32_w]; rw [c50b0]) | skip)
           have H' := Aside0.mk H
           clear H
           go_wp2
           go_meet
           case rel => exact ⟨_, (true), (by first | rfl | (simp; done) | (simp [*]; done)), H', ⟨by have := HJ6.out; have := HJ15.out; have := HJ18.out; first | omega | exact Nat.le_refl _⟩, ⟨by (with_reducible repeat (first | refine blk_drewN ?_ _ | refine blk_drew ?_ | refine blk_alloc ?_ _)); refine blk_far ?_ NB337_361.out _; (with_reducible repeat (first | refine blk_drewN ?_ _ | refine blk_drew ?_ | refine blk_alloc ?_ _)); refine blk_far ?_ NB337_361.out _; (with_reducible repeat (first | refine blk_drewN ?_ _ | refine blk_drew ?_ | refine blk_alloc ?_ _)); refine blk_far ?_ NB337_361.out _; (with_reducible repeat (first | refine blk_drewN ?_ _ | refine blk_drew ?_ | refine blk_alloc ?_ _)); refine blk_far ?_ NB337_361.out _; (with_reducible repeat (first | refine blk_drewN ?_ _ | refine blk_drew ?_ | refine blk_alloc ?_ _)); refine blk_far ?_ NB337_361.out _; (with_reducible repeat (first | refine blk_drewN ?_ _ | refine blk_drew ?_ | refine blk_alloc ?_ _)); refine blk_far ?_ NB337_361.out _; (with_reducible repeat (first | refine blk_drewN ?_ _ | refine blk_drew ?_ | refine blk_alloc ?_ _)); refine blk_far ?_ NB337_361.out _; (with_reducible repeat (first | refine blk_drewN ?_ _ | refine blk_drew ?_ | refine blk_alloc ?_ _)); refine blk_far ?_ NB337_361.out _; (with_reducible repeat (first | refine blk_drewN ?_ _ | refine blk_drew ?_ | refine blk_alloc ?_ _)); refine blk_far ?_ NB337_361.out _; (with_reducible repeat (first | refine blk_drewN ?_ _ | refine blk_drew ?_ | refine blk_alloc ?_ _)); refine blk_far ?_ NB337_361.out _; (with_reducible repeat (first | refine blk_drewN ?_ _ | refine blk_drew ?_ | refine blk_alloc ?_ _)); exact BK337.out⟩, ⟨by (with_reducible repeat (first | refine blk_drewN ?_ _ | refine blk_drew ?_ | refine blk_alloc ?_ _)); refine blk_far ?_ NB349_361.out _; (with_reducible repeat (first | refine blk_drewN ?_ _ | refine blk_drew ?_ | refine blk_alloc ?_ _)); refine blk_far ?_ NB349_361.out _; (with_reducible repeat (first | refine blk_drewN ?_ _ | refine blk_drew ?_ | refine blk_alloc ?_ _)); refine blk_far ?_ NB349_361.out _; (with_reducible repeat (first | refine blk_drewN ?_ _ | refine blk_drew ?_ | refine blk_alloc ?_ _)); refine blk_far ?_ NB349_361.out _; (with_reducible repeat (first | refine blk_drewN ?_ _ | refine blk_drew ?_ | refine blk_alloc ?_ _)); refine blk_far ?_ NB349_361.out _; (with_reducible repeat (first | refine blk_drewN ?_ _ | refine blk_drew ?_ | refine blk_alloc ?_ _)); refine blk_far ?_ NB349_361.out _; (with_reducible repeat (first | refine blk_drewN ?_ _ | refine blk_drew ?_ | refine blk_alloc ?_ _)); refine blk_far ?_ NB349_361.out _; (with_reducible repeat (first | refine blk_drewN ?_ _ | refine blk_drew ?_ | refine blk_alloc ?_ _)); refine blk_far ?_ NB349_361.out _; (with_reducible repeat (first | refine blk_drewN ?_ _ | refine blk_drew ?_ | refine blk_alloc ?_ _)); refine blk_far ?_ NB349_361.out _; (with_reducible repeat (first | refine blk_drewN ?_ _ | refine blk_drew ?_ | refine blk_alloc ?_ _)); refine blk_far ?_ NB349_361.out _; (with_reducible repeat (first | refine blk_drewN ?_ _ | refine blk_drew ?_ | refine blk_alloc ?_ _)); exact BK349.out⟩, ⟨by repeat (first | (with_reducible first | exact HB.out | apply below_alloc | apply pw_below_drewN | apply below_drew1 | refine below_set ?_ GE320.out | refine below_set ?_ GE337.out | refine below_set ?_ GE349.out | refine below_set ?_ GE361.out) | exact HB.out | (with_reducible exact Below.refl _ _))⟩⟩
          ·rw [if_neg c50] at H
           have c50b0 : (t348 != t360) = false := by simpa using c50
           (try (have c50b1 : decide (t348 = t360) = true := by simpa using c50))
           (try (have c50b2 : (t348 == t360) = true := by simpa using c50))
           clear c50
           (first | rw [c50b0] | (simp only [i64_w, i32_w]; rw [c50b0]) | skip)
           have H' := Aside0.mk H
           clear H
           have hnb52 := NB349_337.out
           have hnc52 := NB337_349.out
           have hnb53 := NB349_361.out
           have hnc53 := NB361_349.out
           have hcz54_0 : w45.cell? ⟨gb349, 0, none⟩ = some (.int .i64 t338) := (blk_cell BK349.out 0).trans rfl
           have hcz54_1 : w45.cell? ⟨gb349, 1, none⟩ = some (.int .i64 t339) := (blk_cell BK349.out 1).trans rfl
           have hcz54_2 : w45.cell? ⟨gb349, 2, none⟩ = some (.bool t340) := (blk_cell BK349.out 2).trans rfl
           have hcz54_3 : w45.cell? ⟨gb349, 3, none⟩ = some (.int .i64 t341) := (blk_cell BK349.out 3).trans rfl
           have hcz54_4 : w45.cell? ⟨gb349, 4, none⟩ = some (.int .i64 t342) := (blk_cell BK349.out 4).trans rfl
           have hcz54_5 : w45.cell? ⟨gb349, 5, none⟩ = some (.int .i64 t343) := (blk_cell BK349.out 5).trans rfl
           have hcz54_6 : w45.cell? ⟨gb349, 6, none⟩ = some (.int .i64 t344) := (blk_cell BK349.out 6).trans rfl
           have hcz54_7 : w45.cell? ⟨gb349, 7, none⟩ = some (.int .i64 t345) := (blk_cell BK349.out 7).trans rfl
           have hcz54_8 : w45.cell? ⟨gb349, 8, none⟩ = some (.int .i64 t346) := (blk_cell BK349.out 8).trans rfl
           have hcz54_9 : w45.cell? ⟨gb349, 9, none⟩ = some (.string t347) := (blk_cell BK349.out 9).trans rfl
           have hfz54_0 := blk_frozen BK349.out 0
           have hfz54_1 := blk_frozen BK349.out 1
           have hfz54_2 := blk_frozen BK349.out 2
           have hfz54_3 := blk_frozen BK349.out 3
           have hfz54_4 := blk_frozen BK349.out 4
           have hfz54_5 := blk_frozen BK349.out 5
           have hfz54_6 := blk_frozen BK349.out 6
           have hfz54_7 := blk_frozen BK349.out 7
           have hfz54_8 := blk_frozen BK349.out 8
           have hfz54_9 := blk_frozen BK349.out 9
           have hnb56 := NB361_337.out
           have hnc56 := NB337_361.out
           have hcz57_0 : w45.cell? ⟨gb361, 0, none⟩ = some (.int .i64 0) := (blk_cell BK361.out 0).trans rfl
           have hcz57_1 : w45.cell? ⟨gb361, 1, none⟩ = some (.int .i64 0) := (blk_cell BK361.out 1).trans rfl
           have hcz57_2 : w45.cell? ⟨gb361, 2, none⟩ = some (.bool false) := (blk_cell BK361.out 2).trans rfl
           have hcz57_3 : w45.cell? ⟨gb361, 3, none⟩ = some (.int .i64 0) := (blk_cell BK361.out 3).trans rfl
           have hcz57_4 : w45.cell? ⟨gb361, 4, none⟩ = some (.int .i64 0) := (blk_cell BK361.out 4).trans rfl
           have hcz57_5 : w45.cell? ⟨gb361, 5, none⟩ = some (.int .i64 0) := (blk_cell BK361.out 5).trans rfl
           have hcz57_6 : w45.cell? ⟨gb361, 6, none⟩ = some (.int .i64 0) := (blk_cell BK361.out 6).trans rfl
           have hcz57_7 : w45.cell? ⟨gb361, 7, none⟩ = some (.int .i64 0) := (blk_cell BK361.out 7).trans rfl
           have hcz57_8 : w45.cell? ⟨gb361, 8, none⟩ = some (.int .i64 0) := (blk_cell BK361.out 8).trans rfl
           have hcz57_9 : w45.cell? ⟨gb361, 9, none⟩ = some (.string (⟨#[]⟩ : ByteArray)) := (blk_cell BK361.out 9).trans rfl
           have hfz57_0 := blk_frozen BK361.out 0
           have hfz57_1 := blk_frozen BK361.out 1
           have hfz57_2 := blk_frozen BK361.out 2
           have hfz57_3 := blk_frozen BK361.out 3
           have hfz57_4 := blk_frozen BK361.out 4
           have hfz57_5 := blk_frozen BK361.out 5
           have hfz57_6 := blk_frozen BK361.out 6
           have hfz57_7 := blk_frozen BK361.out 7
           have hfz57_8 := blk_frozen BK361.out 8
           have hfz57_9 := blk_frozen BK361.out 9
           go_wp2
           go_meet
           case rel => exact ⟨_, ((!(t338 == t350) || (!(t339 == t351) || (!(t340 == t352) || (!(t341 == t353) || (!(t342 == t354) || (!(t343 == t355) || (!(t344 == t356) || (!(t345 == t357) || (!(t346 == t358) || (!(t347.toList == t359.toList)))))))))))), (by first | rfl | (simp; done) | (simp [*]; done)), H', ⟨by have := HJ6.out; have := HJ15.out; have := HJ18.out; first | omega | exact Nat.le_refl _⟩, ⟨by (with_reducible repeat (first | refine blk_drewN ?_ _ | refine blk_drew ?_ | refine blk_alloc ?_ _)); refine blk_far ?_ NB337_361.out _; (with_reducible repeat (first | refine blk_drewN ?_ _ | refine blk_drew ?_ | refine blk_alloc ?_ _)); refine blk_far ?_ NB337_361.out _; (with_reducible repeat (first | refine blk_drewN ?_ _ | refine blk_drew ?_ | refine blk_alloc ?_ _)); refine blk_far ?_ NB337_361.out _; (with_reducible repeat (first | refine blk_drewN ?_ _ | refine blk_drew ?_ | refine blk_alloc ?_ _)); refine blk_far ?_ NB337_361.out _; (with_reducible repeat (first | refine blk_drewN ?_ _ | refine blk_drew ?_ | refine blk_alloc ?_ _)); refine blk_far ?_ NB337_361.out _; (with_reducible repeat (first | refine blk_drewN ?_ _ | refine blk_drew ?_ | refine blk_alloc ?_ _)); refine blk_far ?_ NB337_361.out _; (with_reducible repeat (first | refine blk_drewN ?_ _ | refine blk_drew ?_ | refine blk_alloc ?_ _)); refine blk_far ?_ NB337_361.out _; (with_reducible repeat (first | refine blk_drewN ?_ _ | refine blk_drew ?_ | refine blk_alloc ?_ _)); refine blk_far ?_ NB337_361.out _; (with_reducible repeat (first | refine blk_drewN ?_ _ | refine blk_drew ?_ | refine blk_alloc ?_ _)); refine blk_far ?_ NB337_361.out _; (with_reducible repeat (first | refine blk_drewN ?_ _ | refine blk_drew ?_ | refine blk_alloc ?_ _)); refine blk_far ?_ NB337_361.out _; (with_reducible repeat (first | refine blk_drewN ?_ _ | refine blk_drew ?_ | refine blk_alloc ?_ _)); exact BK337.out⟩, ⟨by (with_reducible repeat (first | refine blk_drewN ?_ _ | refine blk_drew ?_ | refine blk_alloc ?_ _)); refine blk_far ?_ NB349_361.out _; (with_reducible repeat (first | refine blk_drewN ?_ _ | refine blk_drew ?_ | refine blk_alloc ?_ _)); refine blk_far ?_ NB349_361.out _; (with_reducible repeat (first | refine blk_drewN ?_ _ | refine blk_drew ?_ | refine blk_alloc ?_ _)); refine blk_far ?_ NB349_361.out _; (with_reducible repeat (first | refine blk_drewN ?_ _ | refine blk_drew ?_ | refine blk_alloc ?_ _)); refine blk_far ?_ NB349_361.out _; (with_reducible repeat (first | refine blk_drewN ?_ _ | refine blk_drew ?_ | refine blk_alloc ?_ _)); refine blk_far ?_ NB349_361.out _; (with_reducible repeat (first | refine blk_drewN ?_ _ | refine blk_drew ?_ | refine blk_alloc ?_ _)); refine blk_far ?_ NB349_361.out _; (with_reducible repeat (first | refine blk_drewN ?_ _ | refine blk_drew ?_ | refine blk_alloc ?_ _)); refine blk_far ?_ NB349_361.out _; (with_reducible repeat (first | refine blk_drewN ?_ _ | refine blk_drew ?_ | refine blk_alloc ?_ _)); refine blk_far ?_ NB349_361.out _; (with_reducible repeat (first | refine blk_drewN ?_ _ | refine blk_drew ?_ | refine blk_alloc ?_ _)); refine blk_far ?_ NB349_361.out _; (with_reducible repeat (first | refine blk_drewN ?_ _ | refine blk_drew ?_ | refine blk_alloc ?_ _)); refine blk_far ?_ NB349_361.out _; (with_reducible repeat (first | refine blk_drewN ?_ _ | refine blk_drew ?_ | refine blk_alloc ?_ _)); exact BK349.out⟩, ⟨by repeat (first | (with_reducible first | exact HB.out | apply below_alloc | apply pw_below_drewN | apply below_drew1 | refine below_set ?_ GE320.out | refine below_set ?_ GE337.out | refine below_set ?_ GE349.out | refine below_set ?_ GE361.out) | exact HB.out | (with_reducible exact Below.refl _ _))⟩⟩
         case rest =>
          clear HC33
          try clear c1
          try clear c2
          try clear p2
          try clear c3
          try clear c3b0
          try clear c4
          try clear c5
          try clear p6
          try clear c12
          try clear c13
          try clear c14
          try clear c14b0
          try clear c14b1
          try clear c14b2
          try clear c15
          try clear c16
          try clear c17
          try clear c18
          try clear c20
          try clear c22
          try clear c23
          try clear c36
          try clear c40
          try clear c41
          try clear c46
          try clear c47
          try clear c48
          try clear c50
          try clear c50b0
          try clear c50b1
          try clear c50b2
          try clear c51
          try clear c52
          try clear c53
          try clear c55
          try clear c56
          try clear hcz10_0
          try clear hcz10_1
          try clear hcz10_2
          try clear hcz10_3
          try clear hcz10_4
          try clear hcz10_5
          try clear hcz10_6
          try clear hcz10_7
          try clear hcz10_8
          try clear hcz10_9
          try clear hcz12_0
          try clear hcz12_1
          try clear hcz12_2
          try clear hcz12_3
          try clear hcz12_4
          try clear hcz12_5
          try clear hcz12_6
          try clear hcz12_7
          try clear hcz12_8
          try clear hcz12_9
          try clear hcz24_0
          try clear hcz24_1
          try clear hcz24_2
          try clear hcz24_3
          try clear hcz24_4
          try clear hcz24_5
          try clear hcz24_6
          try clear hcz24_7
          try clear hcz24_8
          try clear hcz24_9
          try clear hcz26_0
          try clear hcz26_1
          try clear hcz26_2
          try clear hcz26_3
          try clear hcz26_4
          try clear hcz26_5
          try clear hcz26_6
          try clear hcz26_7
          try clear hcz26_8
          try clear hcz26_9
          try clear hcz28_0
          try clear hcz28_1
          try clear hcz28_2
          try clear hcz28_3
          try clear hcz28_4
          try clear hcz28_5
          try clear hcz28_6
          try clear hcz28_7
          try clear hcz28_8
          try clear hcz28_9
          try clear hcz37_0
          try clear hcz37_1
          try clear hcz37_2
          try clear hcz37_3
          try clear hcz37_4
          try clear hcz37_5
          try clear hcz37_6
          try clear hcz37_7
          try clear hcz37_8
          try clear hcz37_9
          try clear hcz42_0
          try clear hcz42_1
          try clear hcz42_2
          try clear hcz42_3
          try clear hcz42_4
          try clear hcz42_5
          try clear hcz42_6
          try clear hcz42_7
          try clear hcz42_8
          try clear hcz42_9
          try clear hcz43_0
          try clear hcz43_1
          try clear hcz43_2
          try clear hcz43_3
          try clear hcz43_4
          try clear hcz43_5
          try clear hcz43_6
          try clear hcz43_7
          try clear hcz43_8
          try clear hcz43_9
          try clear hcz49_0
          try clear hcz49_1
          try clear hcz49_2
          try clear hcz49_3
          try clear hcz49_4
          try clear hcz49_5
          try clear hcz49_6
          try clear hcz49_7
          try clear hcz49_8
          try clear hcz49_9
          try clear hcz54_0
          try clear hcz54_1
          try clear hcz54_2
          try clear hcz54_3
          try clear hcz54_4
          try clear hcz54_5
          try clear hcz54_6
          try clear hcz54_7
          try clear hcz54_8
          try clear hcz54_9
          try clear hcz57_0
          try clear hcz57_1
          try clear hcz57_2
          try clear hcz57_3
          try clear hcz57_4
          try clear hcz57_5
          try clear hcz57_6
          try clear hcz57_7
          try clear hcz57_8
          try clear hcz57_9
          try clear hfz10_0
          try clear hfz10_1
          try clear hfz10_2
          try clear hfz10_3
          try clear hfz10_4
          try clear hfz10_5
          try clear hfz10_6
          try clear hfz10_7
          try clear hfz10_8
          try clear hfz10_9
          try clear hfz12_0
          try clear hfz12_1
          try clear hfz12_2
          try clear hfz12_3
          try clear hfz12_4
          try clear hfz12_5
          try clear hfz12_6
          try clear hfz12_7
          try clear hfz12_8
          try clear hfz12_9
          try clear hfz24_0
          try clear hfz24_1
          try clear hfz24_2
          try clear hfz24_3
          try clear hfz24_4
          try clear hfz24_5
          try clear hfz24_6
          try clear hfz24_7
          try clear hfz24_8
          try clear hfz24_9
          try clear hfz26_0
          try clear hfz26_1
          try clear hfz26_2
          try clear hfz26_3
          try clear hfz26_4
          try clear hfz26_5
          try clear hfz26_6
          try clear hfz26_7
          try clear hfz26_8
          try clear hfz26_9
          try clear hfz28_0
          try clear hfz28_1
          try clear hfz28_2
          try clear hfz28_3
          try clear hfz28_4
          try clear hfz28_5
          try clear hfz28_6
          try clear hfz28_7
          try clear hfz28_8
          try clear hfz28_9
          try clear hfz37_0
          try clear hfz37_1
          try clear hfz37_2
          try clear hfz37_3
          try clear hfz37_4
          try clear hfz37_5
          try clear hfz37_6
          try clear hfz37_7
          try clear hfz37_8
          try clear hfz37_9
          try clear hfz42_0
          try clear hfz42_1
          try clear hfz42_2
          try clear hfz42_3
          try clear hfz42_4
          try clear hfz42_5
          try clear hfz42_6
          try clear hfz42_7
          try clear hfz42_8
          try clear hfz42_9
          try clear hfz43_0
          try clear hfz43_1
          try clear hfz43_2
          try clear hfz43_3
          try clear hfz43_4
          try clear hfz43_5
          try clear hfz43_6
          try clear hfz43_7
          try clear hfz43_8
          try clear hfz43_9
          try clear hfz49_0
          try clear hfz49_1
          try clear hfz49_2
          try clear hfz49_3
          try clear hfz49_4
          try clear hfz49_5
          try clear hfz49_6
          try clear hfz49_7
          try clear hfz49_8
          try clear hfz49_9
          try clear hfz54_0
          try clear hfz54_1
          try clear hfz54_2
          try clear hfz54_3
          try clear hfz54_4
          try clear hfz54_5
          try clear hfz54_6
          try clear hfz54_7
          try clear hfz54_8
          try clear hfz54_9
          try clear hfz57_0
          try clear hfz57_1
          try clear hfz57_2
          try clear hfz57_3
          try clear hfz57_4
          try clear hfz57_5
          try clear hfz57_6
          try clear hfz57_7
          try clear hfz57_8
          try clear hfz57_9
          try clear p2
          try clear p6
          obtain ⟨kq, x101_32, rfl, HA, HJ32, BK337, BK349, HB⟩ := hcut
          cases kq with
          | zero => exact absurd HA.out (by simp [laws_FnLives.j3])
          | succ kj32 =>
           have H := HA.out
           clear HA
           simp only [laws_FnLives.j3] at H
           by_cases c58 : x101_32 = true
           ·subst c58
            have H1 : (some false) = some r := by rw [if_pos rfl] at H; exact H
            clear H
            have H := H1
            clear H1
            first
            | (rw [hrb] at H; cases H; done)
            | obtain rfl := Option.some.inj H
              go_wp2
              go_ret
              exact ⟨by first | rfl | (simp [errW_none, errW_some] <;> rfl) | (simp [*, errW_none, errW_some] <;> rfl), by repeat (first | (with_reducible first | exact HB.out | apply below_alloc | apply pw_below_drewN | apply below_drew1 | refine below_set ?_ GE320.out | refine below_set ?_ GE337.out | refine below_set ?_ GE349.out | refine below_set ?_ GE361.out) | exact HB.out | (with_reducible exact Below.refl _ _))⟩
           ·replace c58 := Bool.eq_false_iff.mpr c58
            subst c58
            have H1 : (if t348 = true then ((impl_SameBundle.f kj32 t338 t339 t340 t341 t342 t343 t344 t345 t346 t347 t327 t328 t329 t330 t331 t332 t333 t334 t335 t336).bind fun bt362 => (if bt362.2 = true then (if bt362.1 = true then (if t344 = (wrap64 (t333 - 1)) then (if t347.toList = t336.toList then ((impl_GoodBundle.f kj32 t338 t339 t340 t341 t342 t343 t344 t345 t346 t347).bind fun t364 => (if t364 = true then (laws_FnLives.j4 kj32 l1) else (some false))) else (some false)) else (some false)) else (some false)) else (some false))) else (laws_FnLives.j4 kj32 l1)) = some r := by rw [if_neg (show ¬ (false = true) by decide)] at H; exact H
            clear H
            have H := H1
            clear H1
            have HC59 := Aside0.mk H
            clear H
            go_upto_if 102 with (fail)
            go_cut [] (fun wc => ∃ (kq : Nat), Aside0 (laws_FnLives.j4 kq l1 = some r) ∧ Aside0 (kq ≤ kj32) ∧ Aside0 (Below w.heap.size w wc))
            case first =>
             have H := HC59.out
             clear HC59
             by_cases c60 : t348 = true
             ·subst c60
              have H1 : ((impl_SameBundle.f kj32 t338 t339 t340 t341 t342 t343 t344 t345 t346 t347 t327 t328 t329 t330 t331 t332 t333 t334 t335 t336).bind fun bt362 => (if bt362.2 = true then (if bt362.1 = true then (if t344 = (wrap64 (t333 - 1)) then (if t347.toList = t336.toList then ((impl_GoodBundle.f kj32 t338 t339 t340 t341 t342 t343 t344 t345 t346 t347).bind fun t364 => (if t364 = true then (laws_FnLives.j4 kj32 l1) else (some false))) else (some false)) else (some false)) else (some false)) else (some false))) = some r := by rw [if_pos rfl] at H; exact H
              clear H
              have H := H1
              clear H1
              replace H := Option.bind_eq_some_iff.mp H
              obtain ⟨⟨t362, t363⟩, A610, H⟩ := H
              replace H : (if t363 = true then (if t362 = true then (if t344 = (wrap64 (t333 - 1)) then (if t347.toList = t336.toList then ((impl_GoodBundle.f kj32 t338 t339 t340 t341 t342 t343 t344 t345 t346 t347).bind fun t364 => (if t364 = true then (laws_FnLives.j4 kj32 l1) else (some false))) else (some false)) else (some false)) else (some false)) else (some false)) = some r := H
              have A61 := Aside0.mk A610
              clear A610
              by_cases c62 : t363 = true
              ·subst c62
               have H1 : (if t362 = true then (if t344 = (wrap64 (t333 - 1)) then (if t347.toList = t336.toList then ((impl_GoodBundle.f kj32 t338 t339 t340 t341 t342 t343 t344 t345 t346 t347).bind fun t364 => (if t364 = true then (laws_FnLives.j4 kj32 l1) else (some false))) else (some false)) else (some false)) else (some false)) = some r := by rw [if_pos rfl] at H; exact H
               clear H
               have H := H1
               clear H1
               by_cases c63 : t362 = true
               ·subst c63
                have H1 : (if t344 = (wrap64 (t333 - 1)) then (if t347.toList = t336.toList then ((impl_GoodBundle.f kj32 t338 t339 t340 t341 t342 t343 t344 t345 t346 t347).bind fun t364 => (if t364 = true then (laws_FnLives.j4 kj32 l1) else (some false))) else (some false)) else (some false)) = some r := by rw [if_pos rfl] at H; exact H
                clear H
                have H := H1
                clear H1
                by_cases c64 : t344 = (wrap64 (t333 - 1))
                ·rw [if_pos c64] at H
                 have c64b0 : (t344 == (wrap64 (t333 - 1))) = true := beq_iff_eq.mpr c64
                 have c64b1 : (t344 != (wrap64 (t333 - 1))) = false := bne_eq_false_iff_eq.mpr c64
                 clear c64
                 (first | rw [c64b0] | (simp only [i64_w, i32_w]; rw [c64b0]) | skip)
                 by_cases c65 : t347.toList = t336.toList
                 ·rw [if_pos c65] at H
                  have c65b0 : (t347.toList == t336.toList) = true := beq_iff_eq.mpr c65
                  have c65b1 : (t347.toList != t336.toList) = false := bne_eq_false_iff_eq.mpr c65
                  clear c65
                  replace H := Option.bind_eq_some_iff.mp H
                  obtain ⟨t364, A660, H⟩ := H
                  replace H : (if t364 = true then (laws_FnLives.j4 kj32 l1) else (some false)) = some r := H
                  have A66 := Aside0.mk A660
                  clear A660
                  by_cases c67 : t364 = true
                  ·subst c67
                   have H1 : (laws_FnLives.j4 kj32 l1) = some r := by rw [if_pos rfl] at H; exact H
                   clear H
                   have H := H1
                   clear H1
                   have H' := Aside0.mk H
                   clear H
                   have hnb69 := NB349_337.out
                   have hnc69 := NB337_349.out
                   have hcz71_0 : wc.cell? ⟨gb349, 0, none⟩ = some (.int .i64 t338) := (blk_cell BK349.out 0).trans rfl
                   have hcz71_1 : wc.cell? ⟨gb349, 1, none⟩ = some (.int .i64 t339) := (blk_cell BK349.out 1).trans rfl
                   have hcz71_2 : wc.cell? ⟨gb349, 2, none⟩ = some (.bool t340) := (blk_cell BK349.out 2).trans rfl
                   have hcz71_3 : wc.cell? ⟨gb349, 3, none⟩ = some (.int .i64 t341) := (blk_cell BK349.out 3).trans rfl
                   have hcz71_4 : wc.cell? ⟨gb349, 4, none⟩ = some (.int .i64 t342) := (blk_cell BK349.out 4).trans rfl
                   have hcz71_5 : wc.cell? ⟨gb349, 5, none⟩ = some (.int .i64 t343) := (blk_cell BK349.out 5).trans rfl
                   have hcz71_6 : wc.cell? ⟨gb349, 6, none⟩ = some (.int .i64 t344) := (blk_cell BK349.out 6).trans rfl
                   have hcz71_7 : wc.cell? ⟨gb349, 7, none⟩ = some (.int .i64 t345) := (blk_cell BK349.out 7).trans rfl
                   have hcz71_8 : wc.cell? ⟨gb349, 8, none⟩ = some (.int .i64 t346) := (blk_cell BK349.out 8).trans rfl
                   have hcz71_9 : wc.cell? ⟨gb349, 9, none⟩ = some (.string t347) := (blk_cell BK349.out 9).trans rfl
                   have hfz71_0 := blk_frozen BK349.out 0
                   have hfz71_1 := blk_frozen BK349.out 1
                   have hfz71_2 := blk_frozen BK349.out 2
                   have hfz71_3 := blk_frozen BK349.out 3
                   have hfz71_4 := blk_frozen BK349.out 4
                   have hfz71_5 := blk_frozen BK349.out 5
                   have hfz71_6 := blk_frozen BK349.out 6
                   have hfz71_7 := blk_frozen BK349.out 7
                   have hfz71_8 := blk_frozen BK349.out 8
                   have hfz71_9 := blk_frozen BK349.out 9
                   have hcz74_0 : wc.cell? ⟨gb337, 0, none⟩ = some (.int .i64 t327) := (blk_cell BK337.out 0).trans rfl
                   have hcz74_1 : wc.cell? ⟨gb337, 1, none⟩ = some (.int .i64 t328) := (blk_cell BK337.out 1).trans rfl
                   have hcz74_2 : wc.cell? ⟨gb337, 2, none⟩ = some (.bool t329) := (blk_cell BK337.out 2).trans rfl
                   have hcz74_3 : wc.cell? ⟨gb337, 3, none⟩ = some (.int .i64 t330) := (blk_cell BK337.out 3).trans rfl
                   have hcz74_4 : wc.cell? ⟨gb337, 4, none⟩ = some (.int .i64 t331) := (blk_cell BK337.out 4).trans rfl
                   have hcz74_5 : wc.cell? ⟨gb337, 5, none⟩ = some (.int .i64 t332) := (blk_cell BK337.out 5).trans rfl
                   have hcz74_6 : wc.cell? ⟨gb337, 6, none⟩ = some (.int .i64 t333) := (blk_cell BK337.out 6).trans rfl
                   have hcz74_7 : wc.cell? ⟨gb337, 7, none⟩ = some (.int .i64 t334) := (blk_cell BK337.out 7).trans rfl
                   have hcz74_8 : wc.cell? ⟨gb337, 8, none⟩ = some (.int .i64 t335) := (blk_cell BK337.out 8).trans rfl
                   have hcz74_9 : wc.cell? ⟨gb337, 9, none⟩ = some (.string t336) := (blk_cell BK337.out 9).trans rfl
                   have hfz74_0 := blk_frozen BK337.out 0
                   have hfz74_1 := blk_frozen BK337.out 1
                   have hfz74_2 := blk_frozen BK337.out 2
                   have hfz74_3 := blk_frozen BK337.out 3
                   have hfz74_4 := blk_frozen BK337.out 4
                   have hfz74_5 := blk_frozen BK337.out 5
                   have hfz74_6 := blk_frozen BK337.out 6
                   have hfz74_7 := blk_frozen BK337.out 7
                   have hfz74_8 := blk_frozen BK337.out 8
                   have hfz74_9 := blk_frozen BK337.out 9
                   go_wp2_with (first | ((with_reducible refine gate_callee (f := 11) rfl ?_); refine goesL_ (some 106) rfl rfl Tryd.func11 (by kernel_rfl) rfl #[.agg #[.int .i64 t338, .int .i64 t339, .bool t340, .int .i64 t341, .int .i64 t342, .int .i64 t343, .int .i64 t344, .int .i64 t345, .int .i64 t346, .string t347], .agg #[.int .i64 t327, .int .i64 t328, .bool t329, .int .i64 t330, .int .i64 t331, .int .i64 t332, .int .i64 t333, .int .i64 t334, .int .i64 t335, .string t336]] rfl (by (try simp only [List.map_toArray, List.map_cons, List.map_nil]); first | done | rfl | (simp only [List.length_drop, List.length_take]; rfl)) ?_; (with_reducible refine (impl_SameBundle.calls kj32 t338 t339 t340 t341 t342 t343 t344 t345 t346 t347 t327 t328 t329 t330 t331 t332 t333 t334 t335 t336 true true _ ?side1 A61.out).mono ?_); (case side1 => exact TabW.below HTB.out (by repeat (first | (with_reducible first | exact HB.out | apply below_alloc | apply pw_below_drewN | apply below_drew1 | refine below_set ?_ GE320.out | refine below_set ?_ GE337.out | refine below_set ?_ GE349.out | refine below_set ?_ GE361.out) | exact HB.out | (with_reducible exact Below.refl _ _)))); rintro e w75 ⟨rfl, hb⟩; refine ⟨_, rfl, ?_⟩; have n1_ := Aside0.mk (blk_below (g := gb337) (o := .cells #[.int .i64 t327, .int .i64 t328, .bool t329, .int .i64 t330, .int .i64 t331, .int .i64 t332, .int .i64 t333, .int .i64 t334, .int .i64 t335, .string t336] 27 (0, 0)) (by (with_reducible repeat (first | refine blk_drewN ?_ _ | refine blk_drew ?_ | refine blk_alloc ?_ _)); exact BK337.out) hb); have n2_ := Aside0.mk (blk_below (g := gb349) (o := .cells #[.int .i64 t338, .int .i64 t339, .bool t340, .int .i64 t341, .int .i64 t342, .int .i64 t343, .int .i64 t344, .int .i64 t345, .int .i64 t346, .string t347] 27 (0, 0)) (by (with_reducible repeat (first | refine blk_drewN ?_ _ | refine blk_drew ?_ | refine blk_alloc ?_ _)); exact BK349.out) hb); have n4_ := Aside0.mk (below_step (by repeat (first | (with_reducible first | exact HB.out | apply below_alloc | apply pw_below_drewN | apply below_drew1 | refine below_set ?_ GE320.out | refine below_set ?_ GE337.out | refine below_set ?_ GE349.out | refine below_set ?_ GE361.out) | exact HB.out | (with_reducible exact Below.refl _ _))) hb); clear BK337; clear BK349; clear HB; have BK337 := n1_; have BK349 := n2_; have HB := n4_; clear n1_ n2_ n4_; (try clear hb); (try clear hb2); (try clear hk); (try clear hi); have hcz76_0 : w75.cell? ⟨gb349, 0, none⟩ = some (.int .i64 t338) := (blk_cell BK349.out 0).trans rfl; have hcz76_1 : w75.cell? ⟨gb349, 1, none⟩ = some (.int .i64 t339) := (blk_cell BK349.out 1).trans rfl; have hcz76_2 : w75.cell? ⟨gb349, 2, none⟩ = some (.bool t340) := (blk_cell BK349.out 2).trans rfl; have hcz76_3 : w75.cell? ⟨gb349, 3, none⟩ = some (.int .i64 t341) := (blk_cell BK349.out 3).trans rfl; have hcz76_4 : w75.cell? ⟨gb349, 4, none⟩ = some (.int .i64 t342) := (blk_cell BK349.out 4).trans rfl; have hcz76_5 : w75.cell? ⟨gb349, 5, none⟩ = some (.int .i64 t343) := (blk_cell BK349.out 5).trans rfl; have hcz76_6 : w75.cell? ⟨gb349, 6, none⟩ = some (.int .i64 t344) := (blk_cell BK349.out 6).trans rfl; have hcz76_7 : w75.cell? ⟨gb349, 7, none⟩ = some (.int .i64 t345) := (blk_cell BK349.out 7).trans rfl; have hcz76_8 : w75.cell? ⟨gb349, 8, none⟩ = some (.int .i64 t346) := (blk_cell BK349.out 8).trans rfl; have hcz76_9 : w75.cell? ⟨gb349, 9, none⟩ = some (.string t347) := (blk_cell BK349.out 9).trans rfl; have hfz76_0 := blk_frozen BK349.out 0; have hfz76_1 := blk_frozen BK349.out 1; have hfz76_2 := blk_frozen BK349.out 2; have hfz76_3 := blk_frozen BK349.out 3; have hfz76_4 := blk_frozen BK349.out 4; have hfz76_5 := blk_frozen BK349.out 5; have hfz76_6 := blk_frozen BK349.out 6; have hfz76_7 := blk_frozen BK349.out 7; have hfz76_8 := blk_frozen BK349.out 8; have hfz76_9 := blk_frozen BK349.out 9; have hcz77_0 : w75.cell? ⟨gb337, 0, none⟩ = some (.int .i64 t327) := (blk_cell BK337.out 0).trans rfl; have hcz77_1 : w75.cell? ⟨gb337, 1, none⟩ = some (.int .i64 t328) := (blk_cell BK337.out 1).trans rfl; have hcz77_2 : w75.cell? ⟨gb337, 2, none⟩ = some (.bool t329) := (blk_cell BK337.out 2).trans rfl; have hcz77_3 : w75.cell? ⟨gb337, 3, none⟩ = some (.int .i64 t330) := (blk_cell BK337.out 3).trans rfl; have hcz77_4 : w75.cell? ⟨gb337, 4, none⟩ = some (.int .i64 t331) := (blk_cell BK337.out 4).trans rfl; have hcz77_5 : w75.cell? ⟨gb337, 5, none⟩ = some (.int .i64 t332) := (blk_cell BK337.out 5).trans rfl; have hcz77_6 : w75.cell? ⟨gb337, 6, none⟩ = some (.int .i64 t333) := (blk_cell BK337.out 6).trans rfl; have hcz77_7 : w75.cell? ⟨gb337, 7, none⟩ = some (.int .i64 t334) := (blk_cell BK337.out 7).trans rfl; have hcz77_8 : w75.cell? ⟨gb337, 8, none⟩ = some (.int .i64 t335) := (blk_cell BK337.out 8).trans rfl; have hcz77_9 : w75.cell? ⟨gb337, 9, none⟩ = some (.string t336) := (blk_cell BK337.out 9).trans rfl; have hfz77_0 := blk_frozen BK337.out 0; have hfz77_1 := blk_frozen BK337.out 1; have hfz77_2 := blk_frozen BK337.out 2; have hfz77_3 := blk_frozen BK337.out 3; have hfz77_4 := blk_frozen BK337.out 4; have hfz77_5 := blk_frozen BK337.out 5; have hfz77_6 := blk_frozen BK337.out 6; have hfz77_7 := blk_frozen BK337.out 7; have hfz77_8 := blk_frozen BK337.out 8; have hfz77_9 := blk_frozen BK337.out 9) | (go_at_call 18; (with_reducible refine (impl_GoodBundle.calls kj32 t338 t339 t340 t341 t342 t343 t344 t345 t346 t347 true _ A66.out).mono ?_); rintro e w78 ⟨rfl, hb⟩; have n1_ := Aside0.mk (blk_below (g := gb337) (o := .cells #[.int .i64 t327, .int .i64 t328, .bool t329, .int .i64 t330, .int .i64 t331, .int .i64 t332, .int .i64 t333, .int .i64 t334, .int .i64 t335, .string t336] 27 (0, 0)) (by (with_reducible repeat (first | refine blk_drewN ?_ _ | refine blk_drew ?_ | refine blk_alloc ?_ _)); exact BK337.out) hb); have n2_ := Aside0.mk (blk_below (g := gb349) (o := .cells #[.int .i64 t338, .int .i64 t339, .bool t340, .int .i64 t341, .int .i64 t342, .int .i64 t343, .int .i64 t344, .int .i64 t345, .int .i64 t346, .string t347] 27 (0, 0)) (by (with_reducible repeat (first | refine blk_drewN ?_ _ | refine blk_drew ?_ | refine blk_alloc ?_ _)); exact BK349.out) hb); have n4_ := Aside0.mk (below_step (by repeat (first | (with_reducible first | exact HB.out | apply below_alloc | apply pw_below_drewN | apply below_drew1 | refine below_set ?_ GE320.out | refine below_set ?_ GE337.out | refine below_set ?_ GE349.out | refine below_set ?_ GE361.out) | exact HB.out | (with_reducible exact Below.refl _ _))) hb); clear BK337; clear BK349; clear HB; have BK337 := n1_; have BK349 := n2_; have HB := n4_; clear n1_ n2_ n4_; (try clear hb); (try clear hb2); (try clear hk); (try clear hi)))
                   go_meet
                   case rel => exact ⟨_, H', ⟨by have := HJ6.out; have := HJ15.out; have := HJ18.out; have := HJ32.out; first | omega | exact Nat.le_refl _⟩, ⟨by repeat (first | (with_reducible first | exact HB.out | apply below_alloc | apply pw_below_drewN | apply below_drew1 | refine below_set ?_ GE320.out | refine below_set ?_ GE337.out | refine below_set ?_ GE349.out | refine below_set ?_ GE361.out) | exact HB.out | (with_reducible exact Below.refl _ _))⟩⟩
                  ·replace c67 := Bool.eq_false_iff.mpr c67
                   subst c67
                   have H1 : (some false) = some r := by rw [if_neg (show ¬ (false = true) by decide)] at H; exact H
                   clear H
                   have H := H1
                   clear H1
                   first
                   | (rw [hrb] at H; cases H; done)
                   | obtain rfl := Option.some.inj H
                     have hnb80 := NB349_337.out
                     have hnc80 := NB337_349.out
                     have hcz82_0 : wc.cell? ⟨gb349, 0, none⟩ = some (.int .i64 t338) := (blk_cell BK349.out 0).trans rfl
                     have hcz82_1 : wc.cell? ⟨gb349, 1, none⟩ = some (.int .i64 t339) := (blk_cell BK349.out 1).trans rfl
                     have hcz82_2 : wc.cell? ⟨gb349, 2, none⟩ = some (.bool t340) := (blk_cell BK349.out 2).trans rfl
                     have hcz82_3 : wc.cell? ⟨gb349, 3, none⟩ = some (.int .i64 t341) := (blk_cell BK349.out 3).trans rfl
                     have hcz82_4 : wc.cell? ⟨gb349, 4, none⟩ = some (.int .i64 t342) := (blk_cell BK349.out 4).trans rfl
                     have hcz82_5 : wc.cell? ⟨gb349, 5, none⟩ = some (.int .i64 t343) := (blk_cell BK349.out 5).trans rfl
                     have hcz82_6 : wc.cell? ⟨gb349, 6, none⟩ = some (.int .i64 t344) := (blk_cell BK349.out 6).trans rfl
                     have hcz82_7 : wc.cell? ⟨gb349, 7, none⟩ = some (.int .i64 t345) := (blk_cell BK349.out 7).trans rfl
                     have hcz82_8 : wc.cell? ⟨gb349, 8, none⟩ = some (.int .i64 t346) := (blk_cell BK349.out 8).trans rfl
                     have hcz82_9 : wc.cell? ⟨gb349, 9, none⟩ = some (.string t347) := (blk_cell BK349.out 9).trans rfl
                     have hfz82_0 := blk_frozen BK349.out 0
                     have hfz82_1 := blk_frozen BK349.out 1
                     have hfz82_2 := blk_frozen BK349.out 2
                     have hfz82_3 := blk_frozen BK349.out 3
                     have hfz82_4 := blk_frozen BK349.out 4
                     have hfz82_5 := blk_frozen BK349.out 5
                     have hfz82_6 := blk_frozen BK349.out 6
                     have hfz82_7 := blk_frozen BK349.out 7
                     have hfz82_8 := blk_frozen BK349.out 8
                     have hfz82_9 := blk_frozen BK349.out 9
                     have hcz85_0 : wc.cell? ⟨gb337, 0, none⟩ = some (.int .i64 t327) := (blk_cell BK337.out 0).trans rfl
                     have hcz85_1 : wc.cell? ⟨gb337, 1, none⟩ = some (.int .i64 t328) := (blk_cell BK337.out 1).trans rfl
                     have hcz85_2 : wc.cell? ⟨gb337, 2, none⟩ = some (.bool t329) := (blk_cell BK337.out 2).trans rfl
                     have hcz85_3 : wc.cell? ⟨gb337, 3, none⟩ = some (.int .i64 t330) := (blk_cell BK337.out 3).trans rfl
                     have hcz85_4 : wc.cell? ⟨gb337, 4, none⟩ = some (.int .i64 t331) := (blk_cell BK337.out 4).trans rfl
                     have hcz85_5 : wc.cell? ⟨gb337, 5, none⟩ = some (.int .i64 t332) := (blk_cell BK337.out 5).trans rfl
                     have hcz85_6 : wc.cell? ⟨gb337, 6, none⟩ = some (.int .i64 t333) := (blk_cell BK337.out 6).trans rfl
                     have hcz85_7 : wc.cell? ⟨gb337, 7, none⟩ = some (.int .i64 t334) := (blk_cell BK337.out 7).trans rfl
                     have hcz85_8 : wc.cell? ⟨gb337, 8, none⟩ = some (.int .i64 t335) := (blk_cell BK337.out 8).trans rfl
                     have hcz85_9 : wc.cell? ⟨gb337, 9, none⟩ = some (.string t336) := (blk_cell BK337.out 9).trans rfl
                     have hfz85_0 := blk_frozen BK337.out 0
                     have hfz85_1 := blk_frozen BK337.out 1
                     have hfz85_2 := blk_frozen BK337.out 2
                     have hfz85_3 := blk_frozen BK337.out 3
                     have hfz85_4 := blk_frozen BK337.out 4
                     have hfz85_5 := blk_frozen BK337.out 5
                     have hfz85_6 := blk_frozen BK337.out 6
                     have hfz85_7 := blk_frozen BK337.out 7
                     have hfz85_8 := blk_frozen BK337.out 8
                     have hfz85_9 := blk_frozen BK337.out 9
                     go_wp2_with (first | ((with_reducible refine gate_callee (f := 11) rfl ?_); refine goesL_ (some 106) rfl rfl Tryd.func11 (by kernel_rfl) rfl #[.agg #[.int .i64 t338, .int .i64 t339, .bool t340, .int .i64 t341, .int .i64 t342, .int .i64 t343, .int .i64 t344, .int .i64 t345, .int .i64 t346, .string t347], .agg #[.int .i64 t327, .int .i64 t328, .bool t329, .int .i64 t330, .int .i64 t331, .int .i64 t332, .int .i64 t333, .int .i64 t334, .int .i64 t335, .string t336]] rfl (by (try simp only [List.map_toArray, List.map_cons, List.map_nil]); first | done | rfl | (simp only [List.length_drop, List.length_take]; rfl)) ?_; (with_reducible refine (impl_SameBundle.calls kj32 t338 t339 t340 t341 t342 t343 t344 t345 t346 t347 t327 t328 t329 t330 t331 t332 t333 t334 t335 t336 true true _ ?side1 A61.out).mono ?_); (case side1 => exact TabW.below HTB.out (by repeat (first | (with_reducible first | exact HB.out | apply below_alloc | apply pw_below_drewN | apply below_drew1 | refine below_set ?_ GE320.out | refine below_set ?_ GE337.out | refine below_set ?_ GE349.out | refine below_set ?_ GE361.out) | exact HB.out | (with_reducible exact Below.refl _ _)))); rintro e w86 ⟨rfl, hb⟩; refine ⟨_, rfl, ?_⟩; have n1_ := Aside0.mk (blk_below (g := gb337) (o := .cells #[.int .i64 t327, .int .i64 t328, .bool t329, .int .i64 t330, .int .i64 t331, .int .i64 t332, .int .i64 t333, .int .i64 t334, .int .i64 t335, .string t336] 27 (0, 0)) (by (with_reducible repeat (first | refine blk_drewN ?_ _ | refine blk_drew ?_ | refine blk_alloc ?_ _)); exact BK337.out) hb); have n2_ := Aside0.mk (blk_below (g := gb349) (o := .cells #[.int .i64 t338, .int .i64 t339, .bool t340, .int .i64 t341, .int .i64 t342, .int .i64 t343, .int .i64 t344, .int .i64 t345, .int .i64 t346, .string t347] 27 (0, 0)) (by (with_reducible repeat (first | refine blk_drewN ?_ _ | refine blk_drew ?_ | refine blk_alloc ?_ _)); exact BK349.out) hb); have n4_ := Aside0.mk (below_step (by repeat (first | (with_reducible first | exact HB.out | apply below_alloc | apply pw_below_drewN | apply below_drew1 | refine below_set ?_ GE320.out | refine below_set ?_ GE337.out | refine below_set ?_ GE349.out | refine below_set ?_ GE361.out) | exact HB.out | (with_reducible exact Below.refl _ _))) hb); clear BK337; clear BK349; clear HB; have BK337 := n1_; have BK349 := n2_; have HB := n4_; clear n1_ n2_ n4_; (try clear hb); (try clear hb2); (try clear hk); (try clear hi); have hcz87_0 : w86.cell? ⟨gb349, 0, none⟩ = some (.int .i64 t338) := (blk_cell BK349.out 0).trans rfl; have hcz87_1 : w86.cell? ⟨gb349, 1, none⟩ = some (.int .i64 t339) := (blk_cell BK349.out 1).trans rfl; have hcz87_2 : w86.cell? ⟨gb349, 2, none⟩ = some (.bool t340) := (blk_cell BK349.out 2).trans rfl; have hcz87_3 : w86.cell? ⟨gb349, 3, none⟩ = some (.int .i64 t341) := (blk_cell BK349.out 3).trans rfl; have hcz87_4 : w86.cell? ⟨gb349, 4, none⟩ = some (.int .i64 t342) := (blk_cell BK349.out 4).trans rfl; have hcz87_5 : w86.cell? ⟨gb349, 5, none⟩ = some (.int .i64 t343) := (blk_cell BK349.out 5).trans rfl; have hcz87_6 : w86.cell? ⟨gb349, 6, none⟩ = some (.int .i64 t344) := (blk_cell BK349.out 6).trans rfl; have hcz87_7 : w86.cell? ⟨gb349, 7, none⟩ = some (.int .i64 t345) := (blk_cell BK349.out 7).trans rfl; have hcz87_8 : w86.cell? ⟨gb349, 8, none⟩ = some (.int .i64 t346) := (blk_cell BK349.out 8).trans rfl; have hcz87_9 : w86.cell? ⟨gb349, 9, none⟩ = some (.string t347) := (blk_cell BK349.out 9).trans rfl; have hfz87_0 := blk_frozen BK349.out 0; have hfz87_1 := blk_frozen BK349.out 1; have hfz87_2 := blk_frozen BK349.out 2; have hfz87_3 := blk_frozen BK349.out 3; have hfz87_4 := blk_frozen BK349.out 4; have hfz87_5 := blk_frozen BK349.out 5; have hfz87_6 := blk_frozen BK349.out 6; have hfz87_7 := blk_frozen BK349.out 7; have hfz87_8 := blk_frozen BK349.out 8; have hfz87_9 := blk_frozen BK349.out 9; have hcz88_0 : w86.cell? ⟨gb337, 0, none⟩ = some (.int .i64 t327) := (blk_cell BK337.out 0).trans rfl; have hcz88_1 : w86.cell? ⟨gb337, 1, none⟩ = some (.int .i64 t328) := (blk_cell BK337.out 1).trans rfl; have hcz88_2 : w86.cell? ⟨gb337, 2, none⟩ = some (.bool t329) := (blk_cell BK337.out 2).trans rfl; have hcz88_3 : w86.cell? ⟨gb337, 3, none⟩ = some (.int .i64 t330) := (blk_cell BK337.out 3).trans rfl; have hcz88_4 : w86.cell? ⟨gb337, 4, none⟩ = some (.int .i64 t331) := (blk_cell BK337.out 4).trans rfl; have hcz88_5 : w86.cell? ⟨gb337, 5, none⟩ = some (.int .i64 t332) := (blk_cell BK337.out 5).trans rfl; have hcz88_6 : w86.cell? ⟨gb337, 6, none⟩ = some (.int .i64 t333) := (blk_cell BK337.out 6).trans rfl; have hcz88_7 : w86.cell? ⟨gb337, 7, none⟩ = some (.int .i64 t334) := (blk_cell BK337.out 7).trans rfl; have hcz88_8 : w86.cell? ⟨gb337, 8, none⟩ = some (.int .i64 t335) := (blk_cell BK337.out 8).trans rfl; have hcz88_9 : w86.cell? ⟨gb337, 9, none⟩ = some (.string t336) := (blk_cell BK337.out 9).trans rfl; have hfz88_0 := blk_frozen BK337.out 0; have hfz88_1 := blk_frozen BK337.out 1; have hfz88_2 := blk_frozen BK337.out 2; have hfz88_3 := blk_frozen BK337.out 3; have hfz88_4 := blk_frozen BK337.out 4; have hfz88_5 := blk_frozen BK337.out 5; have hfz88_6 := blk_frozen BK337.out 6; have hfz88_7 := blk_frozen BK337.out 7; have hfz88_8 := blk_frozen BK337.out 8; have hfz88_9 := blk_frozen BK337.out 9) | (go_at_call 18; (with_reducible refine (impl_GoodBundle.calls kj32 t338 t339 t340 t341 t342 t343 t344 t345 t346 t347 false _ A66.out).mono ?_); rintro e w89 ⟨rfl, hb⟩; have n1_ := Aside0.mk (blk_below (g := gb337) (o := .cells #[.int .i64 t327, .int .i64 t328, .bool t329, .int .i64 t330, .int .i64 t331, .int .i64 t332, .int .i64 t333, .int .i64 t334, .int .i64 t335, .string t336] 27 (0, 0)) (by (with_reducible repeat (first | refine blk_drewN ?_ _ | refine blk_drew ?_ | refine blk_alloc ?_ _)); exact BK337.out) hb); have n2_ := Aside0.mk (blk_below (g := gb349) (o := .cells #[.int .i64 t338, .int .i64 t339, .bool t340, .int .i64 t341, .int .i64 t342, .int .i64 t343, .int .i64 t344, .int .i64 t345, .int .i64 t346, .string t347] 27 (0, 0)) (by (with_reducible repeat (first | refine blk_drewN ?_ _ | refine blk_drew ?_ | refine blk_alloc ?_ _)); exact BK349.out) hb); have n4_ := Aside0.mk (below_step (by repeat (first | (with_reducible first | exact HB.out | apply below_alloc | apply pw_below_drewN | apply below_drew1 | refine below_set ?_ GE320.out | refine below_set ?_ GE337.out | refine below_set ?_ GE349.out | refine below_set ?_ GE361.out) | exact HB.out | (with_reducible exact Below.refl _ _))) hb); clear BK337; clear BK349; clear HB; have BK337 := n1_; have BK349 := n2_; have HB := n4_; clear n1_ n2_ n4_; (try clear hb); (try clear hb2); (try clear hk); (try clear hi)))
                     go_ret
                     exact ⟨by first | rfl | (simp [errW_none, errW_some] <;> rfl) | (simp [*, errW_none, errW_some] <;> rfl), by repeat (first | (with_reducible first | exact HB.out | apply below_alloc | apply pw_below_drewN | apply below_drew1 | refine below_set ?_ GE320.out | refine below_set ?_ GE337.out | refine below_set ?_ GE349.out | refine below_set ?_ GE361.out) | exact HB.out | (with_reducible exact Below.refl _ _))⟩
                 ·rw [if_neg c65] at H
                  have c65b0 : (t347.toList == t336.toList) = false := beq_eq_false_iff_ne.mpr c65
                  have c65b1 : (t347.toList != t336.toList) = true := bne_iff_ne.mpr c65
                  first
                  | (rw [hrb] at H; cases H; done)
                  | obtain rfl := Option.some.inj H
                    have hnb91 := NB349_337.out
                    have hnc91 := NB337_349.out
                    have hcz93_0 : wc.cell? ⟨gb349, 0, none⟩ = some (.int .i64 t338) := (blk_cell BK349.out 0).trans rfl
                    have hcz93_1 : wc.cell? ⟨gb349, 1, none⟩ = some (.int .i64 t339) := (blk_cell BK349.out 1).trans rfl
                    have hcz93_2 : wc.cell? ⟨gb349, 2, none⟩ = some (.bool t340) := (blk_cell BK349.out 2).trans rfl
                    have hcz93_3 : wc.cell? ⟨gb349, 3, none⟩ = some (.int .i64 t341) := (blk_cell BK349.out 3).trans rfl
                    have hcz93_4 : wc.cell? ⟨gb349, 4, none⟩ = some (.int .i64 t342) := (blk_cell BK349.out 4).trans rfl
                    have hcz93_5 : wc.cell? ⟨gb349, 5, none⟩ = some (.int .i64 t343) := (blk_cell BK349.out 5).trans rfl
                    have hcz93_6 : wc.cell? ⟨gb349, 6, none⟩ = some (.int .i64 t344) := (blk_cell BK349.out 6).trans rfl
                    have hcz93_7 : wc.cell? ⟨gb349, 7, none⟩ = some (.int .i64 t345) := (blk_cell BK349.out 7).trans rfl
                    have hcz93_8 : wc.cell? ⟨gb349, 8, none⟩ = some (.int .i64 t346) := (blk_cell BK349.out 8).trans rfl
                    have hcz93_9 : wc.cell? ⟨gb349, 9, none⟩ = some (.string t347) := (blk_cell BK349.out 9).trans rfl
                    have hfz93_0 := blk_frozen BK349.out 0
                    have hfz93_1 := blk_frozen BK349.out 1
                    have hfz93_2 := blk_frozen BK349.out 2
                    have hfz93_3 := blk_frozen BK349.out 3
                    have hfz93_4 := blk_frozen BK349.out 4
                    have hfz93_5 := blk_frozen BK349.out 5
                    have hfz93_6 := blk_frozen BK349.out 6
                    have hfz93_7 := blk_frozen BK349.out 7
                    have hfz93_8 := blk_frozen BK349.out 8
                    have hfz93_9 := blk_frozen BK349.out 9
                    have hcz96_0 : wc.cell? ⟨gb337, 0, none⟩ = some (.int .i64 t327) := (blk_cell BK337.out 0).trans rfl
                    have hcz96_1 : wc.cell? ⟨gb337, 1, none⟩ = some (.int .i64 t328) := (blk_cell BK337.out 1).trans rfl
                    have hcz96_2 : wc.cell? ⟨gb337, 2, none⟩ = some (.bool t329) := (blk_cell BK337.out 2).trans rfl
                    have hcz96_3 : wc.cell? ⟨gb337, 3, none⟩ = some (.int .i64 t330) := (blk_cell BK337.out 3).trans rfl
                    have hcz96_4 : wc.cell? ⟨gb337, 4, none⟩ = some (.int .i64 t331) := (blk_cell BK337.out 4).trans rfl
                    have hcz96_5 : wc.cell? ⟨gb337, 5, none⟩ = some (.int .i64 t332) := (blk_cell BK337.out 5).trans rfl
                    have hcz96_6 : wc.cell? ⟨gb337, 6, none⟩ = some (.int .i64 t333) := (blk_cell BK337.out 6).trans rfl
                    have hcz96_7 : wc.cell? ⟨gb337, 7, none⟩ = some (.int .i64 t334) := (blk_cell BK337.out 7).trans rfl
                    have hcz96_8 : wc.cell? ⟨gb337, 8, none⟩ = some (.int .i64 t335) := (blk_cell BK337.out 8).trans rfl
                    have hcz96_9 : wc.cell? ⟨gb337, 9, none⟩ = some (.string t336) := (blk_cell BK337.out 9).trans rfl
                    have hfz96_0 := blk_frozen BK337.out 0
                    have hfz96_1 := blk_frozen BK337.out 1
                    have hfz96_2 := blk_frozen BK337.out 2
                    have hfz96_3 := blk_frozen BK337.out 3
                    have hfz96_4 := blk_frozen BK337.out 4
                    have hfz96_5 := blk_frozen BK337.out 5
                    have hfz96_6 := blk_frozen BK337.out 6
                    have hfz96_7 := blk_frozen BK337.out 7
                    have hfz96_8 := blk_frozen BK337.out 8
                    have hfz96_9 := blk_frozen BK337.out 9
                    go_wp2_with (first | ((with_reducible refine gate_callee (f := 11) rfl ?_); refine goesL_ (some 106) rfl rfl Tryd.func11 (by kernel_rfl) rfl #[.agg #[.int .i64 t338, .int .i64 t339, .bool t340, .int .i64 t341, .int .i64 t342, .int .i64 t343, .int .i64 t344, .int .i64 t345, .int .i64 t346, .string t347], .agg #[.int .i64 t327, .int .i64 t328, .bool t329, .int .i64 t330, .int .i64 t331, .int .i64 t332, .int .i64 t333, .int .i64 t334, .int .i64 t335, .string t336]] rfl (by (try simp only [List.map_toArray, List.map_cons, List.map_nil]); first | done | rfl | (simp only [List.length_drop, List.length_take]; rfl)) ?_; (with_reducible refine (impl_SameBundle.calls kj32 t338 t339 t340 t341 t342 t343 t344 t345 t346 t347 t327 t328 t329 t330 t331 t332 t333 t334 t335 t336 true true _ ?side1 A61.out).mono ?_); (case side1 => exact TabW.below HTB.out (by repeat (first | (with_reducible first | exact HB.out | apply below_alloc | apply pw_below_drewN | apply below_drew1 | refine below_set ?_ GE320.out | refine below_set ?_ GE337.out | refine below_set ?_ GE349.out | refine below_set ?_ GE361.out) | exact HB.out | (with_reducible exact Below.refl _ _)))); rintro e w97 ⟨rfl, hb⟩; refine ⟨_, rfl, ?_⟩; have n1_ := Aside0.mk (blk_below (g := gb337) (o := .cells #[.int .i64 t327, .int .i64 t328, .bool t329, .int .i64 t330, .int .i64 t331, .int .i64 t332, .int .i64 t333, .int .i64 t334, .int .i64 t335, .string t336] 27 (0, 0)) (by (with_reducible repeat (first | refine blk_drewN ?_ _ | refine blk_drew ?_ | refine blk_alloc ?_ _)); exact BK337.out) hb); have n2_ := Aside0.mk (blk_below (g := gb349) (o := .cells #[.int .i64 t338, .int .i64 t339, .bool t340, .int .i64 t341, .int .i64 t342, .int .i64 t343, .int .i64 t344, .int .i64 t345, .int .i64 t346, .string t347] 27 (0, 0)) (by (with_reducible repeat (first | refine blk_drewN ?_ _ | refine blk_drew ?_ | refine blk_alloc ?_ _)); exact BK349.out) hb); have n4_ := Aside0.mk (below_step (by repeat (first | (with_reducible first | exact HB.out | apply below_alloc | apply pw_below_drewN | apply below_drew1 | refine below_set ?_ GE320.out | refine below_set ?_ GE337.out | refine below_set ?_ GE349.out | refine below_set ?_ GE361.out) | exact HB.out | (with_reducible exact Below.refl _ _))) hb); clear BK337; clear BK349; clear HB; have BK337 := n1_; have BK349 := n2_; have HB := n4_; clear n1_ n2_ n4_; (try clear hb); (try clear hb2); (try clear hk); (try clear hi); have hcz98_0 : w97.cell? ⟨gb349, 0, none⟩ = some (.int .i64 t338) := (blk_cell BK349.out 0).trans rfl; have hcz98_1 : w97.cell? ⟨gb349, 1, none⟩ = some (.int .i64 t339) := (blk_cell BK349.out 1).trans rfl; have hcz98_2 : w97.cell? ⟨gb349, 2, none⟩ = some (.bool t340) := (blk_cell BK349.out 2).trans rfl; have hcz98_3 : w97.cell? ⟨gb349, 3, none⟩ = some (.int .i64 t341) := (blk_cell BK349.out 3).trans rfl; have hcz98_4 : w97.cell? ⟨gb349, 4, none⟩ = some (.int .i64 t342) := (blk_cell BK349.out 4).trans rfl; have hcz98_5 : w97.cell? ⟨gb349, 5, none⟩ = some (.int .i64 t343) := (blk_cell BK349.out 5).trans rfl; have hcz98_6 : w97.cell? ⟨gb349, 6, none⟩ = some (.int .i64 t344) := (blk_cell BK349.out 6).trans rfl; have hcz98_7 : w97.cell? ⟨gb349, 7, none⟩ = some (.int .i64 t345) := (blk_cell BK349.out 7).trans rfl; have hcz98_8 : w97.cell? ⟨gb349, 8, none⟩ = some (.int .i64 t346) := (blk_cell BK349.out 8).trans rfl; have hcz98_9 : w97.cell? ⟨gb349, 9, none⟩ = some (.string t347) := (blk_cell BK349.out 9).trans rfl; have hfz98_0 := blk_frozen BK349.out 0; have hfz98_1 := blk_frozen BK349.out 1; have hfz98_2 := blk_frozen BK349.out 2; have hfz98_3 := blk_frozen BK349.out 3; have hfz98_4 := blk_frozen BK349.out 4; have hfz98_5 := blk_frozen BK349.out 5; have hfz98_6 := blk_frozen BK349.out 6; have hfz98_7 := blk_frozen BK349.out 7; have hfz98_8 := blk_frozen BK349.out 8; have hfz98_9 := blk_frozen BK349.out 9; have hcz99_0 : w97.cell? ⟨gb337, 0, none⟩ = some (.int .i64 t327) := (blk_cell BK337.out 0).trans rfl; have hcz99_1 : w97.cell? ⟨gb337, 1, none⟩ = some (.int .i64 t328) := (blk_cell BK337.out 1).trans rfl; have hcz99_2 : w97.cell? ⟨gb337, 2, none⟩ = some (.bool t329) := (blk_cell BK337.out 2).trans rfl; have hcz99_3 : w97.cell? ⟨gb337, 3, none⟩ = some (.int .i64 t330) := (blk_cell BK337.out 3).trans rfl; have hcz99_4 : w97.cell? ⟨gb337, 4, none⟩ = some (.int .i64 t331) := (blk_cell BK337.out 4).trans rfl; have hcz99_5 : w97.cell? ⟨gb337, 5, none⟩ = some (.int .i64 t332) := (blk_cell BK337.out 5).trans rfl; have hcz99_6 : w97.cell? ⟨gb337, 6, none⟩ = some (.int .i64 t333) := (blk_cell BK337.out 6).trans rfl; have hcz99_7 : w97.cell? ⟨gb337, 7, none⟩ = some (.int .i64 t334) := (blk_cell BK337.out 7).trans rfl; have hcz99_8 : w97.cell? ⟨gb337, 8, none⟩ = some (.int .i64 t335) := (blk_cell BK337.out 8).trans rfl; have hcz99_9 : w97.cell? ⟨gb337, 9, none⟩ = some (.string t336) := (blk_cell BK337.out 9).trans rfl; have hfz99_0 := blk_frozen BK337.out 0; have hfz99_1 := blk_frozen BK337.out 1; have hfz99_2 := blk_frozen BK337.out 2; have hfz99_3 := blk_frozen BK337.out 3; have hfz99_4 := blk_frozen BK337.out 4; have hfz99_5 := blk_frozen BK337.out 5; have hfz99_6 := blk_frozen BK337.out 6; have hfz99_7 := blk_frozen BK337.out 7; have hfz99_8 := blk_frozen BK337.out 8; have hfz99_9 := blk_frozen BK337.out 9))
                    go_ret
                    exact ⟨by first | rfl | (simp [errW_none, errW_some] <;> rfl) | (simp [*, errW_none, errW_some] <;> rfl), by repeat (first | (with_reducible first | exact HB.out | apply below_alloc | apply pw_below_drewN | apply below_drew1 | refine below_set ?_ GE320.out | refine below_set ?_ GE337.out | refine below_set ?_ GE349.out | refine below_set ?_ GE361.out) | exact HB.out | (with_reducible exact Below.refl _ _))⟩
                ·rw [if_neg c64] at H
                 have c64b0 : (t344 == (wrap64 (t333 - 1))) = false := beq_eq_false_iff_ne.mpr c64
                 have c64b1 : (t344 != (wrap64 (t333 - 1))) = true := bne_iff_ne.mpr c64
                 (first | rw [c64b0] | (simp only [i64_w, i32_w]; rw [c64b0]) | skip)
                 first
                 | (rw [hrb] at H; cases H; done)
                 | obtain rfl := Option.some.inj H
                   have hnb101 := NB349_337.out
                   have hnc101 := NB337_349.out
                   have hcz103_0 : wc.cell? ⟨gb349, 0, none⟩ = some (.int .i64 t338) := (blk_cell BK349.out 0).trans rfl
                   have hcz103_1 : wc.cell? ⟨gb349, 1, none⟩ = some (.int .i64 t339) := (blk_cell BK349.out 1).trans rfl
                   have hcz103_2 : wc.cell? ⟨gb349, 2, none⟩ = some (.bool t340) := (blk_cell BK349.out 2).trans rfl
                   have hcz103_3 : wc.cell? ⟨gb349, 3, none⟩ = some (.int .i64 t341) := (blk_cell BK349.out 3).trans rfl
                   have hcz103_4 : wc.cell? ⟨gb349, 4, none⟩ = some (.int .i64 t342) := (blk_cell BK349.out 4).trans rfl
                   have hcz103_5 : wc.cell? ⟨gb349, 5, none⟩ = some (.int .i64 t343) := (blk_cell BK349.out 5).trans rfl
                   have hcz103_6 : wc.cell? ⟨gb349, 6, none⟩ = some (.int .i64 t344) := (blk_cell BK349.out 6).trans rfl
                   have hcz103_7 : wc.cell? ⟨gb349, 7, none⟩ = some (.int .i64 t345) := (blk_cell BK349.out 7).trans rfl
                   have hcz103_8 : wc.cell? ⟨gb349, 8, none⟩ = some (.int .i64 t346) := (blk_cell BK349.out 8).trans rfl
                   have hcz103_9 : wc.cell? ⟨gb349, 9, none⟩ = some (.string t347) := (blk_cell BK349.out 9).trans rfl
                   have hfz103_0 := blk_frozen BK349.out 0
                   have hfz103_1 := blk_frozen BK349.out 1
                   have hfz103_2 := blk_frozen BK349.out 2
                   have hfz103_3 := blk_frozen BK349.out 3
                   have hfz103_4 := blk_frozen BK349.out 4
                   have hfz103_5 := blk_frozen BK349.out 5
                   have hfz103_6 := blk_frozen BK349.out 6
                   have hfz103_7 := blk_frozen BK349.out 7
                   have hfz103_8 := blk_frozen BK349.out 8
                   have hfz103_9 := blk_frozen BK349.out 9
                   have hcz106_0 : wc.cell? ⟨gb337, 0, none⟩ = some (.int .i64 t327) := (blk_cell BK337.out 0).trans rfl
                   have hcz106_1 : wc.cell? ⟨gb337, 1, none⟩ = some (.int .i64 t328) := (blk_cell BK337.out 1).trans rfl
                   have hcz106_2 : wc.cell? ⟨gb337, 2, none⟩ = some (.bool t329) := (blk_cell BK337.out 2).trans rfl
                   have hcz106_3 : wc.cell? ⟨gb337, 3, none⟩ = some (.int .i64 t330) := (blk_cell BK337.out 3).trans rfl
                   have hcz106_4 : wc.cell? ⟨gb337, 4, none⟩ = some (.int .i64 t331) := (blk_cell BK337.out 4).trans rfl
                   have hcz106_5 : wc.cell? ⟨gb337, 5, none⟩ = some (.int .i64 t332) := (blk_cell BK337.out 5).trans rfl
                   have hcz106_6 : wc.cell? ⟨gb337, 6, none⟩ = some (.int .i64 t333) := (blk_cell BK337.out 6).trans rfl
                   have hcz106_7 : wc.cell? ⟨gb337, 7, none⟩ = some (.int .i64 t334) := (blk_cell BK337.out 7).trans rfl
                   have hcz106_8 : wc.cell? ⟨gb337, 8, none⟩ = some (.int .i64 t335) := (blk_cell BK337.out 8).trans rfl
                   have hcz106_9 : wc.cell? ⟨gb337, 9, none⟩ = some (.string t336) := (blk_cell BK337.out 9).trans rfl
                   have hfz106_0 := blk_frozen BK337.out 0
                   have hfz106_1 := blk_frozen BK337.out 1
                   have hfz106_2 := blk_frozen BK337.out 2
                   have hfz106_3 := blk_frozen BK337.out 3
                   have hfz106_4 := blk_frozen BK337.out 4
                   have hfz106_5 := blk_frozen BK337.out 5
                   have hfz106_6 := blk_frozen BK337.out 6
                   have hfz106_7 := blk_frozen BK337.out 7
                   have hfz106_8 := blk_frozen BK337.out 8
                   have hfz106_9 := blk_frozen BK337.out 9
                   go_wp2_with (first | ((with_reducible refine gate_callee (f := 11) rfl ?_); refine goesL_ (some 106) rfl rfl Tryd.func11 (by kernel_rfl) rfl #[.agg #[.int .i64 t338, .int .i64 t339, .bool t340, .int .i64 t341, .int .i64 t342, .int .i64 t343, .int .i64 t344, .int .i64 t345, .int .i64 t346, .string t347], .agg #[.int .i64 t327, .int .i64 t328, .bool t329, .int .i64 t330, .int .i64 t331, .int .i64 t332, .int .i64 t333, .int .i64 t334, .int .i64 t335, .string t336]] rfl (by (try simp only [List.map_toArray, List.map_cons, List.map_nil]); first | done | rfl | (simp only [List.length_drop, List.length_take]; rfl)) ?_; (with_reducible refine (impl_SameBundle.calls kj32 t338 t339 t340 t341 t342 t343 t344 t345 t346 t347 t327 t328 t329 t330 t331 t332 t333 t334 t335 t336 true true _ ?side1 A61.out).mono ?_); (case side1 => exact TabW.below HTB.out (by repeat (first | (with_reducible first | exact HB.out | apply below_alloc | apply pw_below_drewN | apply below_drew1 | refine below_set ?_ GE320.out | refine below_set ?_ GE337.out | refine below_set ?_ GE349.out | refine below_set ?_ GE361.out) | exact HB.out | (with_reducible exact Below.refl _ _)))); rintro e w107 ⟨rfl, hb⟩; refine ⟨_, rfl, ?_⟩; have n1_ := Aside0.mk (blk_below (g := gb337) (o := .cells #[.int .i64 t327, .int .i64 t328, .bool t329, .int .i64 t330, .int .i64 t331, .int .i64 t332, .int .i64 t333, .int .i64 t334, .int .i64 t335, .string t336] 27 (0, 0)) (by (with_reducible repeat (first | refine blk_drewN ?_ _ | refine blk_drew ?_ | refine blk_alloc ?_ _)); exact BK337.out) hb); have n2_ := Aside0.mk (blk_below (g := gb349) (o := .cells #[.int .i64 t338, .int .i64 t339, .bool t340, .int .i64 t341, .int .i64 t342, .int .i64 t343, .int .i64 t344, .int .i64 t345, .int .i64 t346, .string t347] 27 (0, 0)) (by (with_reducible repeat (first | refine blk_drewN ?_ _ | refine blk_drew ?_ | refine blk_alloc ?_ _)); exact BK349.out) hb); have n4_ := Aside0.mk (below_step (by repeat (first | (with_reducible first | exact HB.out | apply below_alloc | apply pw_below_drewN | apply below_drew1 | refine below_set ?_ GE320.out | refine below_set ?_ GE337.out | refine below_set ?_ GE349.out | refine below_set ?_ GE361.out) | exact HB.out | (with_reducible exact Below.refl _ _))) hb); clear BK337; clear BK349; clear HB; have BK337 := n1_; have BK349 := n2_; have HB := n4_; clear n1_ n2_ n4_; (try clear hb); (try clear hb2); (try clear hk); (try clear hi); have hcz108_0 : w107.cell? ⟨gb349, 0, none⟩ = some (.int .i64 t338) := (blk_cell BK349.out 0).trans rfl; have hcz108_1 : w107.cell? ⟨gb349, 1, none⟩ = some (.int .i64 t339) := (blk_cell BK349.out 1).trans rfl; have hcz108_2 : w107.cell? ⟨gb349, 2, none⟩ = some (.bool t340) := (blk_cell BK349.out 2).trans rfl; have hcz108_3 : w107.cell? ⟨gb349, 3, none⟩ = some (.int .i64 t341) := (blk_cell BK349.out 3).trans rfl; have hcz108_4 : w107.cell? ⟨gb349, 4, none⟩ = some (.int .i64 t342) := (blk_cell BK349.out 4).trans rfl; have hcz108_5 : w107.cell? ⟨gb349, 5, none⟩ = some (.int .i64 t343) := (blk_cell BK349.out 5).trans rfl; have hcz108_6 : w107.cell? ⟨gb349, 6, none⟩ = some (.int .i64 t344) := (blk_cell BK349.out 6).trans rfl; have hcz108_7 : w107.cell? ⟨gb349, 7, none⟩ = some (.int .i64 t345) := (blk_cell BK349.out 7).trans rfl; have hcz108_8 : w107.cell? ⟨gb349, 8, none⟩ = some (.int .i64 t346) := (blk_cell BK349.out 8).trans rfl; have hcz108_9 : w107.cell? ⟨gb349, 9, none⟩ = some (.string t347) := (blk_cell BK349.out 9).trans rfl; have hfz108_0 := blk_frozen BK349.out 0; have hfz108_1 := blk_frozen BK349.out 1; have hfz108_2 := blk_frozen BK349.out 2; have hfz108_3 := blk_frozen BK349.out 3; have hfz108_4 := blk_frozen BK349.out 4; have hfz108_5 := blk_frozen BK349.out 5; have hfz108_6 := blk_frozen BK349.out 6; have hfz108_7 := blk_frozen BK349.out 7; have hfz108_8 := blk_frozen BK349.out 8; have hfz108_9 := blk_frozen BK349.out 9; have hcz109_0 : w107.cell? ⟨gb337, 0, none⟩ = some (.int .i64 t327) := (blk_cell BK337.out 0).trans rfl; have hcz109_1 : w107.cell? ⟨gb337, 1, none⟩ = some (.int .i64 t328) := (blk_cell BK337.out 1).trans rfl; have hcz109_2 : w107.cell? ⟨gb337, 2, none⟩ = some (.bool t329) := (blk_cell BK337.out 2).trans rfl; have hcz109_3 : w107.cell? ⟨gb337, 3, none⟩ = some (.int .i64 t330) := (blk_cell BK337.out 3).trans rfl; have hcz109_4 : w107.cell? ⟨gb337, 4, none⟩ = some (.int .i64 t331) := (blk_cell BK337.out 4).trans rfl; have hcz109_5 : w107.cell? ⟨gb337, 5, none⟩ = some (.int .i64 t332) := (blk_cell BK337.out 5).trans rfl; have hcz109_6 : w107.cell? ⟨gb337, 6, none⟩ = some (.int .i64 t333) := (blk_cell BK337.out 6).trans rfl; have hcz109_7 : w107.cell? ⟨gb337, 7, none⟩ = some (.int .i64 t334) := (blk_cell BK337.out 7).trans rfl; have hcz109_8 : w107.cell? ⟨gb337, 8, none⟩ = some (.int .i64 t335) := (blk_cell BK337.out 8).trans rfl; have hcz109_9 : w107.cell? ⟨gb337, 9, none⟩ = some (.string t336) := (blk_cell BK337.out 9).trans rfl; have hfz109_0 := blk_frozen BK337.out 0; have hfz109_1 := blk_frozen BK337.out 1; have hfz109_2 := blk_frozen BK337.out 2; have hfz109_3 := blk_frozen BK337.out 3; have hfz109_4 := blk_frozen BK337.out 4; have hfz109_5 := blk_frozen BK337.out 5; have hfz109_6 := blk_frozen BK337.out 6; have hfz109_7 := blk_frozen BK337.out 7; have hfz109_8 := blk_frozen BK337.out 8; have hfz109_9 := blk_frozen BK337.out 9))
                   go_ret
                   exact ⟨by first | rfl | (simp [errW_none, errW_some] <;> rfl) | (simp [*, errW_none, errW_some] <;> rfl), by repeat (first | (with_reducible first | exact HB.out | apply below_alloc | apply pw_below_drewN | apply below_drew1 | refine below_set ?_ GE320.out | refine below_set ?_ GE337.out | refine below_set ?_ GE349.out | refine below_set ?_ GE361.out) | exact HB.out | (with_reducible exact Below.refl _ _))⟩
               ·replace c63 := Bool.eq_false_iff.mpr c63
                subst c63
                have H1 : (some false) = some r := by rw [if_neg (show ¬ (false = true) by decide)] at H; exact H
                clear H
                have H := H1
                clear H1
                first
                | (rw [hrb] at H; cases H; done)
                | obtain rfl := Option.some.inj H
                  have hnb111 := NB349_337.out
                  have hnc111 := NB337_349.out
                  have hcz113_0 : wc.cell? ⟨gb349, 0, none⟩ = some (.int .i64 t338) := (blk_cell BK349.out 0).trans rfl
                  have hcz113_1 : wc.cell? ⟨gb349, 1, none⟩ = some (.int .i64 t339) := (blk_cell BK349.out 1).trans rfl
                  have hcz113_2 : wc.cell? ⟨gb349, 2, none⟩ = some (.bool t340) := (blk_cell BK349.out 2).trans rfl
                  have hcz113_3 : wc.cell? ⟨gb349, 3, none⟩ = some (.int .i64 t341) := (blk_cell BK349.out 3).trans rfl
                  have hcz113_4 : wc.cell? ⟨gb349, 4, none⟩ = some (.int .i64 t342) := (blk_cell BK349.out 4).trans rfl
                  have hcz113_5 : wc.cell? ⟨gb349, 5, none⟩ = some (.int .i64 t343) := (blk_cell BK349.out 5).trans rfl
                  have hcz113_6 : wc.cell? ⟨gb349, 6, none⟩ = some (.int .i64 t344) := (blk_cell BK349.out 6).trans rfl
                  have hcz113_7 : wc.cell? ⟨gb349, 7, none⟩ = some (.int .i64 t345) := (blk_cell BK349.out 7).trans rfl
                  have hcz113_8 : wc.cell? ⟨gb349, 8, none⟩ = some (.int .i64 t346) := (blk_cell BK349.out 8).trans rfl
                  have hcz113_9 : wc.cell? ⟨gb349, 9, none⟩ = some (.string t347) := (blk_cell BK349.out 9).trans rfl
                  have hfz113_0 := blk_frozen BK349.out 0
                  have hfz113_1 := blk_frozen BK349.out 1
                  have hfz113_2 := blk_frozen BK349.out 2
                  have hfz113_3 := blk_frozen BK349.out 3
                  have hfz113_4 := blk_frozen BK349.out 4
                  have hfz113_5 := blk_frozen BK349.out 5
                  have hfz113_6 := blk_frozen BK349.out 6
                  have hfz113_7 := blk_frozen BK349.out 7
                  have hfz113_8 := blk_frozen BK349.out 8
                  have hfz113_9 := blk_frozen BK349.out 9
                  have hcz116_0 : wc.cell? ⟨gb337, 0, none⟩ = some (.int .i64 t327) := (blk_cell BK337.out 0).trans rfl
                  have hcz116_1 : wc.cell? ⟨gb337, 1, none⟩ = some (.int .i64 t328) := (blk_cell BK337.out 1).trans rfl
                  have hcz116_2 : wc.cell? ⟨gb337, 2, none⟩ = some (.bool t329) := (blk_cell BK337.out 2).trans rfl
                  have hcz116_3 : wc.cell? ⟨gb337, 3, none⟩ = some (.int .i64 t330) := (blk_cell BK337.out 3).trans rfl
                  have hcz116_4 : wc.cell? ⟨gb337, 4, none⟩ = some (.int .i64 t331) := (blk_cell BK337.out 4).trans rfl
                  have hcz116_5 : wc.cell? ⟨gb337, 5, none⟩ = some (.int .i64 t332) := (blk_cell BK337.out 5).trans rfl
                  have hcz116_6 : wc.cell? ⟨gb337, 6, none⟩ = some (.int .i64 t333) := (blk_cell BK337.out 6).trans rfl
                  have hcz116_7 : wc.cell? ⟨gb337, 7, none⟩ = some (.int .i64 t334) := (blk_cell BK337.out 7).trans rfl
                  have hcz116_8 : wc.cell? ⟨gb337, 8, none⟩ = some (.int .i64 t335) := (blk_cell BK337.out 8).trans rfl
                  have hcz116_9 : wc.cell? ⟨gb337, 9, none⟩ = some (.string t336) := (blk_cell BK337.out 9).trans rfl
                  have hfz116_0 := blk_frozen BK337.out 0
                  have hfz116_1 := blk_frozen BK337.out 1
                  have hfz116_2 := blk_frozen BK337.out 2
                  have hfz116_3 := blk_frozen BK337.out 3
                  have hfz116_4 := blk_frozen BK337.out 4
                  have hfz116_5 := blk_frozen BK337.out 5
                  have hfz116_6 := blk_frozen BK337.out 6
                  have hfz116_7 := blk_frozen BK337.out 7
                  have hfz116_8 := blk_frozen BK337.out 8
                  have hfz116_9 := blk_frozen BK337.out 9
                  go_wp2_with (first | ((with_reducible refine gate_callee (f := 11) rfl ?_); refine goesL_ (some 106) rfl rfl Tryd.func11 (by kernel_rfl) rfl #[.agg #[.int .i64 t338, .int .i64 t339, .bool t340, .int .i64 t341, .int .i64 t342, .int .i64 t343, .int .i64 t344, .int .i64 t345, .int .i64 t346, .string t347], .agg #[.int .i64 t327, .int .i64 t328, .bool t329, .int .i64 t330, .int .i64 t331, .int .i64 t332, .int .i64 t333, .int .i64 t334, .int .i64 t335, .string t336]] rfl (by (try simp only [List.map_toArray, List.map_cons, List.map_nil]); first | done | rfl | (simp only [List.length_drop, List.length_take]; rfl)) ?_; (with_reducible refine (impl_SameBundle.calls kj32 t338 t339 t340 t341 t342 t343 t344 t345 t346 t347 t327 t328 t329 t330 t331 t332 t333 t334 t335 t336 false true _ ?side1 A61.out).mono ?_); (case side1 => exact TabW.below HTB.out (by repeat (first | (with_reducible first | exact HB.out | apply below_alloc | apply pw_below_drewN | apply below_drew1 | refine below_set ?_ GE320.out | refine below_set ?_ GE337.out | refine below_set ?_ GE349.out | refine below_set ?_ GE361.out) | exact HB.out | (with_reducible exact Below.refl _ _)))); rintro e w117 ⟨rfl, hb⟩; refine ⟨_, rfl, ?_⟩; have n1_ := Aside0.mk (blk_below (g := gb337) (o := .cells #[.int .i64 t327, .int .i64 t328, .bool t329, .int .i64 t330, .int .i64 t331, .int .i64 t332, .int .i64 t333, .int .i64 t334, .int .i64 t335, .string t336] 27 (0, 0)) (by (with_reducible repeat (first | refine blk_drewN ?_ _ | refine blk_drew ?_ | refine blk_alloc ?_ _)); exact BK337.out) hb); have n2_ := Aside0.mk (blk_below (g := gb349) (o := .cells #[.int .i64 t338, .int .i64 t339, .bool t340, .int .i64 t341, .int .i64 t342, .int .i64 t343, .int .i64 t344, .int .i64 t345, .int .i64 t346, .string t347] 27 (0, 0)) (by (with_reducible repeat (first | refine blk_drewN ?_ _ | refine blk_drew ?_ | refine blk_alloc ?_ _)); exact BK349.out) hb); have n4_ := Aside0.mk (below_step (by repeat (first | (with_reducible first | exact HB.out | apply below_alloc | apply pw_below_drewN | apply below_drew1 | refine below_set ?_ GE320.out | refine below_set ?_ GE337.out | refine below_set ?_ GE349.out | refine below_set ?_ GE361.out) | exact HB.out | (with_reducible exact Below.refl _ _))) hb); clear BK337; clear BK349; clear HB; have BK337 := n1_; have BK349 := n2_; have HB := n4_; clear n1_ n2_ n4_; (try clear hb); (try clear hb2); (try clear hk); (try clear hi)))
                  go_ret
                  exact ⟨by first | rfl | (simp [errW_none, errW_some] <;> rfl) | (simp [*, errW_none, errW_some] <;> rfl), by repeat (first | (with_reducible first | exact HB.out | apply below_alloc | apply pw_below_drewN | apply below_drew1 | refine below_set ?_ GE320.out | refine below_set ?_ GE337.out | refine below_set ?_ GE349.out | refine below_set ?_ GE361.out) | exact HB.out | (with_reducible exact Below.refl _ _))⟩
              ·replace c62 := Bool.eq_false_iff.mpr c62
               subst c62
               have H1 : (some false) = some r := by rw [if_neg (show ¬ (false = true) by decide)] at H; exact H
               clear H
               have H := H1
               clear H1
               first
               | (rw [hrb] at H; cases H; done)
               | obtain rfl := Option.some.inj H
                 have hnb119 := NB349_337.out
                 have hnc119 := NB337_349.out
                 have hcz121_0 : wc.cell? ⟨gb349, 0, none⟩ = some (.int .i64 t338) := (blk_cell BK349.out 0).trans rfl
                 have hcz121_1 : wc.cell? ⟨gb349, 1, none⟩ = some (.int .i64 t339) := (blk_cell BK349.out 1).trans rfl
                 have hcz121_2 : wc.cell? ⟨gb349, 2, none⟩ = some (.bool t340) := (blk_cell BK349.out 2).trans rfl
                 have hcz121_3 : wc.cell? ⟨gb349, 3, none⟩ = some (.int .i64 t341) := (blk_cell BK349.out 3).trans rfl
                 have hcz121_4 : wc.cell? ⟨gb349, 4, none⟩ = some (.int .i64 t342) := (blk_cell BK349.out 4).trans rfl
                 have hcz121_5 : wc.cell? ⟨gb349, 5, none⟩ = some (.int .i64 t343) := (blk_cell BK349.out 5).trans rfl
                 have hcz121_6 : wc.cell? ⟨gb349, 6, none⟩ = some (.int .i64 t344) := (blk_cell BK349.out 6).trans rfl
                 have hcz121_7 : wc.cell? ⟨gb349, 7, none⟩ = some (.int .i64 t345) := (blk_cell BK349.out 7).trans rfl
                 have hcz121_8 : wc.cell? ⟨gb349, 8, none⟩ = some (.int .i64 t346) := (blk_cell BK349.out 8).trans rfl
                 have hcz121_9 : wc.cell? ⟨gb349, 9, none⟩ = some (.string t347) := (blk_cell BK349.out 9).trans rfl
                 have hfz121_0 := blk_frozen BK349.out 0
                 have hfz121_1 := blk_frozen BK349.out 1
                 have hfz121_2 := blk_frozen BK349.out 2
                 have hfz121_3 := blk_frozen BK349.out 3
                 have hfz121_4 := blk_frozen BK349.out 4
                 have hfz121_5 := blk_frozen BK349.out 5
                 have hfz121_6 := blk_frozen BK349.out 6
                 have hfz121_7 := blk_frozen BK349.out 7
                 have hfz121_8 := blk_frozen BK349.out 8
                 have hfz121_9 := blk_frozen BK349.out 9
                 have hcz124_0 : wc.cell? ⟨gb337, 0, none⟩ = some (.int .i64 t327) := (blk_cell BK337.out 0).trans rfl
                 have hcz124_1 : wc.cell? ⟨gb337, 1, none⟩ = some (.int .i64 t328) := (blk_cell BK337.out 1).trans rfl
                 have hcz124_2 : wc.cell? ⟨gb337, 2, none⟩ = some (.bool t329) := (blk_cell BK337.out 2).trans rfl
                 have hcz124_3 : wc.cell? ⟨gb337, 3, none⟩ = some (.int .i64 t330) := (blk_cell BK337.out 3).trans rfl
                 have hcz124_4 : wc.cell? ⟨gb337, 4, none⟩ = some (.int .i64 t331) := (blk_cell BK337.out 4).trans rfl
                 have hcz124_5 : wc.cell? ⟨gb337, 5, none⟩ = some (.int .i64 t332) := (blk_cell BK337.out 5).trans rfl
                 have hcz124_6 : wc.cell? ⟨gb337, 6, none⟩ = some (.int .i64 t333) := (blk_cell BK337.out 6).trans rfl
                 have hcz124_7 : wc.cell? ⟨gb337, 7, none⟩ = some (.int .i64 t334) := (blk_cell BK337.out 7).trans rfl
                 have hcz124_8 : wc.cell? ⟨gb337, 8, none⟩ = some (.int .i64 t335) := (blk_cell BK337.out 8).trans rfl
                 have hcz124_9 : wc.cell? ⟨gb337, 9, none⟩ = some (.string t336) := (blk_cell BK337.out 9).trans rfl
                 have hfz124_0 := blk_frozen BK337.out 0
                 have hfz124_1 := blk_frozen BK337.out 1
                 have hfz124_2 := blk_frozen BK337.out 2
                 have hfz124_3 := blk_frozen BK337.out 3
                 have hfz124_4 := blk_frozen BK337.out 4
                 have hfz124_5 := blk_frozen BK337.out 5
                 have hfz124_6 := blk_frozen BK337.out 6
                 have hfz124_7 := blk_frozen BK337.out 7
                 have hfz124_8 := blk_frozen BK337.out 8
                 have hfz124_9 := blk_frozen BK337.out 9
                 go_wp2_with (first | ((with_reducible refine gate_callee (f := 11) rfl ?_); refine goesL_ (some 106) rfl rfl Tryd.func11 (by kernel_rfl) rfl #[.agg #[.int .i64 t338, .int .i64 t339, .bool t340, .int .i64 t341, .int .i64 t342, .int .i64 t343, .int .i64 t344, .int .i64 t345, .int .i64 t346, .string t347], .agg #[.int .i64 t327, .int .i64 t328, .bool t329, .int .i64 t330, .int .i64 t331, .int .i64 t332, .int .i64 t333, .int .i64 t334, .int .i64 t335, .string t336]] rfl (by (try simp only [List.map_toArray, List.map_cons, List.map_nil]); first | done | rfl | (simp only [List.length_drop, List.length_take]; rfl)) ?_; (with_reducible refine (impl_SameBundle.calls kj32 t338 t339 t340 t341 t342 t343 t344 t345 t346 t347 t327 t328 t329 t330 t331 t332 t333 t334 t335 t336 t362 false _ ?side1 A61.out).mono ?_); (case side1 => exact TabW.below HTB.out (by repeat (first | (with_reducible first | exact HB.out | apply below_alloc | apply pw_below_drewN | apply below_drew1 | refine below_set ?_ GE320.out | refine below_set ?_ GE337.out | refine below_set ?_ GE349.out | refine below_set ?_ GE361.out) | exact HB.out | (with_reducible exact Below.refl _ _)))); rintro e w125 ⟨rfl, hb⟩; refine ⟨_, rfl, ?_⟩; have n1_ := Aside0.mk (blk_below (g := gb337) (o := .cells #[.int .i64 t327, .int .i64 t328, .bool t329, .int .i64 t330, .int .i64 t331, .int .i64 t332, .int .i64 t333, .int .i64 t334, .int .i64 t335, .string t336] 27 (0, 0)) (by (with_reducible repeat (first | refine blk_drewN ?_ _ | refine blk_drew ?_ | refine blk_alloc ?_ _)); exact BK337.out) hb); have n2_ := Aside0.mk (blk_below (g := gb349) (o := .cells #[.int .i64 t338, .int .i64 t339, .bool t340, .int .i64 t341, .int .i64 t342, .int .i64 t343, .int .i64 t344, .int .i64 t345, .int .i64 t346, .string t347] 27 (0, 0)) (by (with_reducible repeat (first | refine blk_drewN ?_ _ | refine blk_drew ?_ | refine blk_alloc ?_ _)); exact BK349.out) hb); have n4_ := Aside0.mk (below_step (by repeat (first | (with_reducible first | exact HB.out | apply below_alloc | apply pw_below_drewN | apply below_drew1 | refine below_set ?_ GE320.out | refine below_set ?_ GE337.out | refine below_set ?_ GE349.out | refine below_set ?_ GE361.out) | exact HB.out | (with_reducible exact Below.refl _ _))) hb); clear BK337; clear BK349; clear HB; have BK337 := n1_; have BK349 := n2_; have HB := n4_; clear n1_ n2_ n4_; (try clear hb); (try clear hb2); (try clear hk); (try clear hi)))
                 go_ret
                 exact ⟨by first | rfl | (simp [errW_none, errW_some] <;> rfl) | (simp [*, errW_none, errW_some] <;> rfl), by repeat (first | (with_reducible first | exact HB.out | apply below_alloc | apply pw_below_drewN | apply below_drew1 | refine below_set ?_ GE320.out | refine below_set ?_ GE337.out | refine below_set ?_ GE349.out | refine below_set ?_ GE361.out) | exact HB.out | (with_reducible exact Below.refl _ _))⟩
             ·replace c60 := Bool.eq_false_iff.mpr c60
              subst c60
              have H1 : (laws_FnLives.j4 kj32 l1) = some r := by rw [if_neg (show ¬ (false = true) by decide)] at H; exact H
              clear H
              have H := H1
              clear H1
              have H' := Aside0.mk H
              clear H
              go_wp2
              go_meet
              case rel => exact ⟨_, H', ⟨by have := HJ6.out; have := HJ15.out; have := HJ18.out; have := HJ32.out; first | omega | exact Nat.le_refl _⟩, ⟨by repeat (first | (with_reducible first | exact HB.out | apply below_alloc | apply pw_below_drewN | apply below_drew1 | refine below_set ?_ GE320.out | refine below_set ?_ GE337.out | refine below_set ?_ GE349.out | refine below_set ?_ GE361.out) | exact HB.out | (with_reducible exact Below.refl _ _))⟩⟩
            case rest =>
             clear HC59
             try clear c1
             try clear p2
             try clear c5
             try clear c6
             try clear p6
             try clear c7
             try clear c8
             try clear c9
             try clear c10
             try clear c11
             try clear c12
             try clear c58
             try clear c60
             try clear c62
             try clear c63
             try clear c64
             try clear c64b0
             try clear c64b1
             try clear p64
             try clear c65
             try clear c65b0
             try clear c65b1
             try clear c67
             try clear c68
             try clear c69
             try clear c70
             try clear c72
             try clear c73
             try clear c79
             try clear c80
             try clear c81
             try clear c83
             try clear c84
             try clear c90
             try clear c91
             try clear c92
             try clear c94
             try clear c95
             try clear c100
             try clear c101
             try clear c102
             try clear c104
             try clear c105
             try clear c110
             try clear c111
             try clear c112
             try clear c114
             try clear c115
             try clear c118
             try clear c119
             try clear c120
             try clear c122
             try clear c123
             try clear hcz103_0
             try clear hcz103_1
             try clear hcz103_2
             try clear hcz103_3
             try clear hcz103_4
             try clear hcz103_5
             try clear hcz103_6
             try clear hcz103_7
             try clear hcz103_8
             try clear hcz103_9
             try clear hcz106_0
             try clear hcz106_1
             try clear hcz106_2
             try clear hcz106_3
             try clear hcz106_4
             try clear hcz106_5
             try clear hcz106_6
             try clear hcz106_7
             try clear hcz106_8
             try clear hcz106_9
             try clear hcz108_0
             try clear hcz108_1
             try clear hcz108_2
             try clear hcz108_3
             try clear hcz108_4
             try clear hcz108_5
             try clear hcz108_6
             try clear hcz108_7
             try clear hcz108_8
             try clear hcz108_9
             try clear hcz109_0
             try clear hcz109_1
             try clear hcz109_2
             try clear hcz109_3
             try clear hcz109_4
             try clear hcz109_5
             try clear hcz109_6
             try clear hcz109_7
             try clear hcz109_8
             try clear hcz109_9
             try clear hcz113_0
             try clear hcz113_1
             try clear hcz113_2
             try clear hcz113_3
             try clear hcz113_4
             try clear hcz113_5
             try clear hcz113_6
             try clear hcz113_7
             try clear hcz113_8
             try clear hcz113_9
             try clear hcz116_0
             try clear hcz116_1
             try clear hcz116_2
             try clear hcz116_3
             try clear hcz116_4
             try clear hcz116_5
             try clear hcz116_6
             try clear hcz116_7
             try clear hcz116_8
             try clear hcz116_9
             try clear hcz121_0
             try clear hcz121_1
             try clear hcz121_2
             try clear hcz121_3
             try clear hcz121_4
             try clear hcz121_5
             try clear hcz121_6
             try clear hcz121_7
             try clear hcz121_8
             try clear hcz121_9
             try clear hcz124_0
             try clear hcz124_1
             try clear hcz124_2
             try clear hcz124_3
             try clear hcz124_4
             try clear hcz124_5
             try clear hcz124_6
             try clear hcz124_7
             try clear hcz124_8
             try clear hcz124_9
             try clear hcz42_0
             try clear hcz42_1
             try clear hcz42_2
             try clear hcz42_3
             try clear hcz42_4
             try clear hcz42_5
             try clear hcz42_6
             try clear hcz42_7
             try clear hcz42_8
             try clear hcz42_9
             try clear hcz43_0
             try clear hcz43_1
             try clear hcz43_2
             try clear hcz43_3
             try clear hcz43_4
             try clear hcz43_5
             try clear hcz43_6
             try clear hcz43_7
             try clear hcz43_8
             try clear hcz43_9
             try clear hcz49_0
             try clear hcz49_1
             try clear hcz49_2
             try clear hcz49_3
             try clear hcz49_4
             try clear hcz49_5
             try clear hcz49_6
             try clear hcz49_7
             try clear hcz49_8
             try clear hcz49_9
             try clear hcz54_0
             try clear hcz54_1
             try clear hcz54_2
             try clear hcz54_3
             try clear hcz54_4
             try clear hcz54_5
             try clear hcz54_6
             try clear hcz54_7
             try clear hcz54_8
             try clear hcz54_9
             try clear hcz57_0
             try clear hcz57_1
             try clear hcz57_2
             try clear hcz57_3
             try clear hcz57_4
             try clear hcz57_5
             try clear hcz57_6
             try clear hcz57_7
             try clear hcz57_8
             try clear hcz57_9
             try clear hcz71_0
             try clear hcz71_1
             try clear hcz71_2
             try clear hcz71_3
             try clear hcz71_4
             try clear hcz71_5
             try clear hcz71_6
             try clear hcz71_7
             try clear hcz71_8
             try clear hcz71_9
             try clear hcz74_0
             try clear hcz74_1
             try clear hcz74_2
             try clear hcz74_3
             try clear hcz74_4
             try clear hcz74_5
             try clear hcz74_6
             try clear hcz74_7
             try clear hcz74_8
             try clear hcz74_9
             try clear hcz76_0
             try clear hcz76_1
             try clear hcz76_2
             try clear hcz76_3
             try clear hcz76_4
             try clear hcz76_5
             try clear hcz76_6
             try clear hcz76_7
             try clear hcz76_8
             try clear hcz76_9
             try clear hcz77_0
             try clear hcz77_1
             try clear hcz77_2
             try clear hcz77_3
             try clear hcz77_4
             try clear hcz77_5
             try clear hcz77_6
             try clear hcz77_7
             try clear hcz77_8
             try clear hcz77_9
             try clear hcz82_0
             try clear hcz82_1
             try clear hcz82_2
             try clear hcz82_3
             try clear hcz82_4
             try clear hcz82_5
             try clear hcz82_6
             try clear hcz82_7
             try clear hcz82_8
             try clear hcz82_9
             try clear hcz85_0
             try clear hcz85_1
             try clear hcz85_2
             try clear hcz85_3
             try clear hcz85_4
             try clear hcz85_5
             try clear hcz85_6
             try clear hcz85_7
             try clear hcz85_8
             try clear hcz85_9
             try clear hcz87_0
             try clear hcz87_1
             try clear hcz87_2
             try clear hcz87_3
             try clear hcz87_4
             try clear hcz87_5
             try clear hcz87_6
             try clear hcz87_7
             try clear hcz87_8
             try clear hcz87_9
             try clear hcz88_0
             try clear hcz88_1
             try clear hcz88_2
             try clear hcz88_3
             try clear hcz88_4
             try clear hcz88_5
             try clear hcz88_6
             try clear hcz88_7
             try clear hcz88_8
             try clear hcz88_9
             try clear hcz93_0
             try clear hcz93_1
             try clear hcz93_2
             try clear hcz93_3
             try clear hcz93_4
             try clear hcz93_5
             try clear hcz93_6
             try clear hcz93_7
             try clear hcz93_8
             try clear hcz93_9
             try clear hcz96_0
             try clear hcz96_1
             try clear hcz96_2
             try clear hcz96_3
             try clear hcz96_4
             try clear hcz96_5
             try clear hcz96_6
             try clear hcz96_7
             try clear hcz96_8
             try clear hcz96_9
             try clear hcz98_0
             try clear hcz98_1
             try clear hcz98_2
             try clear hcz98_3
             try clear hcz98_4
             try clear hcz98_5
             try clear hcz98_6
             try clear hcz98_7
             try clear hcz98_8
             try clear hcz98_9
             try clear hcz99_0
             try clear hcz99_1
             try clear hcz99_2
             try clear hcz99_3
             try clear hcz99_4
             try clear hcz99_5
             try clear hcz99_6
             try clear hcz99_7
             try clear hcz99_8
             try clear hcz99_9
             try clear hfz103_0
             try clear hfz103_1
             try clear hfz103_2
             try clear hfz103_3
             try clear hfz103_4
             try clear hfz103_5
             try clear hfz103_6
             try clear hfz103_7
             try clear hfz103_8
             try clear hfz103_9
             try clear hfz106_0
             try clear hfz106_1
             try clear hfz106_2
             try clear hfz106_3
             try clear hfz106_4
             try clear hfz106_5
             try clear hfz106_6
             try clear hfz106_7
             try clear hfz106_8
             try clear hfz106_9
             try clear hfz108_0
             try clear hfz108_1
             try clear hfz108_2
             try clear hfz108_3
             try clear hfz108_4
             try clear hfz108_5
             try clear hfz108_6
             try clear hfz108_7
             try clear hfz108_8
             try clear hfz108_9
             try clear hfz109_0
             try clear hfz109_1
             try clear hfz109_2
             try clear hfz109_3
             try clear hfz109_4
             try clear hfz109_5
             try clear hfz109_6
             try clear hfz109_7
             try clear hfz109_8
             try clear hfz109_9
             try clear hfz10_0
             try clear hfz10_1
             try clear hfz10_2
             try clear hfz10_3
             try clear hfz10_4
             try clear hfz10_5
             try clear hfz10_6
             try clear hfz10_7
             try clear hfz10_8
             try clear hfz10_9
             try clear hfz113_0
             try clear hfz113_1
             try clear hfz113_2
             try clear hfz113_3
             try clear hfz113_4
             try clear hfz113_5
             try clear hfz113_6
             try clear hfz113_7
             try clear hfz113_8
             try clear hfz113_9
             try clear hfz116_0
             try clear hfz116_1
             try clear hfz116_2
             try clear hfz116_3
             try clear hfz116_4
             try clear hfz116_5
             try clear hfz116_6
             try clear hfz116_7
             try clear hfz116_8
             try clear hfz116_9
             try clear hfz121_0
             try clear hfz121_1
             try clear hfz121_2
             try clear hfz121_3
             try clear hfz121_4
             try clear hfz121_5
             try clear hfz121_6
             try clear hfz121_7
             try clear hfz121_8
             try clear hfz121_9
             try clear hfz124_0
             try clear hfz124_1
             try clear hfz124_2
             try clear hfz124_3
             try clear hfz124_4
             try clear hfz124_5
             try clear hfz124_6
             try clear hfz124_7
             try clear hfz124_8
             try clear hfz124_9
             try clear hfz12_0
             try clear hfz12_1
             try clear hfz12_2
             try clear hfz12_3
             try clear hfz12_4
             try clear hfz12_5
             try clear hfz12_6
             try clear hfz12_7
             try clear hfz12_8
             try clear hfz12_9
             try clear hfz24_0
             try clear hfz24_1
             try clear hfz24_2
             try clear hfz24_3
             try clear hfz24_4
             try clear hfz24_5
             try clear hfz24_6
             try clear hfz24_7
             try clear hfz24_8
             try clear hfz24_9
             try clear hfz26_0
             try clear hfz26_1
             try clear hfz26_2
             try clear hfz26_3
             try clear hfz26_4
             try clear hfz26_5
             try clear hfz26_6
             try clear hfz26_7
             try clear hfz26_8
             try clear hfz26_9
             try clear hfz28_0
             try clear hfz28_1
             try clear hfz28_2
             try clear hfz28_3
             try clear hfz28_4
             try clear hfz28_5
             try clear hfz28_6
             try clear hfz28_7
             try clear hfz28_8
             try clear hfz28_9
             try clear hfz37_0
             try clear hfz37_1
             try clear hfz37_2
             try clear hfz37_3
             try clear hfz37_4
             try clear hfz37_5
             try clear hfz37_6
             try clear hfz37_7
             try clear hfz37_8
             try clear hfz37_9
             try clear hfz42_0
             try clear hfz42_1
             try clear hfz42_2
             try clear hfz42_3
             try clear hfz42_4
             try clear hfz42_5
             try clear hfz42_6
             try clear hfz42_7
             try clear hfz42_8
             try clear hfz42_9
             try clear hfz43_0
             try clear hfz43_1
             try clear hfz43_2
             try clear hfz43_3
             try clear hfz43_4
             try clear hfz43_5
             try clear hfz43_6
             try clear hfz43_7
             try clear hfz43_8
             try clear hfz43_9
             try clear hfz49_0
             try clear hfz49_1
             try clear hfz49_2
             try clear hfz49_3
             try clear hfz49_4
             try clear hfz49_5
             try clear hfz49_6
             try clear hfz49_7
             try clear hfz49_8
             try clear hfz49_9
             try clear hfz54_0
             try clear hfz54_1
             try clear hfz54_2
             try clear hfz54_3
             try clear hfz54_4
             try clear hfz54_5
             try clear hfz54_6
             try clear hfz54_7
             try clear hfz54_8
             try clear hfz54_9
             try clear hfz57_0
             try clear hfz57_1
             try clear hfz57_2
             try clear hfz57_3
             try clear hfz57_4
             try clear hfz57_5
             try clear hfz57_6
             try clear hfz57_7
             try clear hfz57_8
             try clear hfz57_9
             try clear hfz71_0
             try clear hfz71_1
             try clear hfz71_2
             try clear hfz71_3
             try clear hfz71_4
             try clear hfz71_5
             try clear hfz71_6
             try clear hfz71_7
             try clear hfz71_8
             try clear hfz71_9
             try clear hfz74_0
             try clear hfz74_1
             try clear hfz74_2
             try clear hfz74_3
             try clear hfz74_4
             try clear hfz74_5
             try clear hfz74_6
             try clear hfz74_7
             try clear hfz74_8
             try clear hfz74_9
             try clear hfz76_0
             try clear hfz76_1
             try clear hfz76_2
             try clear hfz76_3
             try clear hfz76_4
             try clear hfz76_5
             try clear hfz76_6
             try clear hfz76_7
             try clear hfz76_8
             try clear hfz76_9
             try clear hfz77_0
             try clear hfz77_1
             try clear hfz77_2
             try clear hfz77_3
             try clear hfz77_4
             try clear hfz77_5
             try clear hfz77_6
             try clear hfz77_7
             try clear hfz77_8
             try clear hfz77_9
             try clear hfz82_0
             try clear hfz82_1
             try clear hfz82_2
             try clear hfz82_3
             try clear hfz82_4
             try clear hfz82_5
             try clear hfz82_6
             try clear hfz82_7
             try clear hfz82_8
             try clear hfz82_9
             try clear hfz85_0
             try clear hfz85_1
             try clear hfz85_2
             try clear hfz85_3
             try clear hfz85_4
             try clear hfz85_5
             try clear hfz85_6
             try clear hfz85_7
             try clear hfz85_8
             try clear hfz85_9
             try clear hfz87_0
             try clear hfz87_1
             try clear hfz87_2
             try clear hfz87_3
             try clear hfz87_4
             try clear hfz87_5
             try clear hfz87_6
             try clear hfz87_7
             try clear hfz87_8
             try clear hfz87_9
             try clear hfz88_0
             try clear hfz88_1
             try clear hfz88_2
             try clear hfz88_3
             try clear hfz88_4
             try clear hfz88_5
             try clear hfz88_6
             try clear hfz88_7
             try clear hfz88_8
             try clear hfz88_9
             try clear hfz93_0
             try clear hfz93_1
             try clear hfz93_2
             try clear hfz93_3
             try clear hfz93_4
             try clear hfz93_5
             try clear hfz93_6
             try clear hfz93_7
             try clear hfz93_8
             try clear hfz93_9
             try clear hfz96_0
             try clear hfz96_1
             try clear hfz96_2
             try clear hfz96_3
             try clear hfz96_4
             try clear hfz96_5
             try clear hfz96_6
             try clear hfz96_7
             try clear hfz96_8
             try clear hfz96_9
             try clear hfz98_0
             try clear hfz98_1
             try clear hfz98_2
             try clear hfz98_3
             try clear hfz98_4
             try clear hfz98_5
             try clear hfz98_6
             try clear hfz98_7
             try clear hfz98_8
             try clear hfz98_9
             try clear hfz99_0
             try clear hfz99_1
             try clear hfz99_2
             try clear hfz99_3
             try clear hfz99_4
             try clear hfz99_5
             try clear hfz99_6
             try clear hfz99_7
             try clear hfz99_8
             try clear hfz99_9
             try clear p2
             try clear p6
             obtain ⟨kq, HA, HJ58, HB⟩ := hcut
             cases kq with
             | zero => exact absurd HA.out (by simp [laws_FnLives.j4])
             | succ kj58 =>
              have H := HA.out
              clear HA
              simp only [laws_FnLives.j4] at H
              replace H := Option.bind_eq_some_iff.mp H
              obtain ⟨⟨t365, t366, t367, t368, t369, t370, t371, t372, t373, t374, t375, t376, t377, t378, t379, t380, t381, t382, t383, t384⟩, A1260, H⟩ := H
              replace H : ((impl_IdOf.f kj58 t365 t366 t367 t368 t369 t370 t371 t372 t373 t374).bind fun bt387 => ((spec_IdOf.f kj58 t365 t366 t367 t368 t369 t370 t371 t372 t373 t374).bind fun bt389 => ((impl_IdOf.f kj58 t375 t376 t377 t378 t379 t380 t381 t382 t383 t384).bind fun bt391 => ((impl_SameBundle.f kj58 t365 t366 t367 t368 t369 t370 t371 t372 t373 t374 t375 t376 t377 t378 t379 t380 t381 t382 t383 t384).bind fun bt393 => (laws_FnLives.j5 kj58 bt387.1 bt387.2 bt389.1 bt389.2 bt391.1 bt391.2 bt393.1 bt393.2))))) = some r := H
              have A126 := Aside0.mk A1260
              clear A1260
              replace H := Option.bind_eq_some_iff.mp H
              obtain ⟨⟨t387, t388⟩, A1270, H⟩ := H
              replace H : ((spec_IdOf.f kj58 t365 t366 t367 t368 t369 t370 t371 t372 t373 t374).bind fun bt389 => ((impl_IdOf.f kj58 t375 t376 t377 t378 t379 t380 t381 t382 t383 t384).bind fun bt391 => ((impl_SameBundle.f kj58 t365 t366 t367 t368 t369 t370 t371 t372 t373 t374 t375 t376 t377 t378 t379 t380 t381 t382 t383 t384).bind fun bt393 => (laws_FnLives.j5 kj58 t387 t388 bt389.1 bt389.2 bt391.1 bt391.2 bt393.1 bt393.2)))) = some r := H
              have A127 := Aside0.mk A1270
              clear A1270
              replace H := Option.bind_eq_some_iff.mp H
              obtain ⟨⟨t389, t390⟩, A1280, H⟩ := H
              replace H : ((impl_IdOf.f kj58 t375 t376 t377 t378 t379 t380 t381 t382 t383 t384).bind fun bt391 => ((impl_SameBundle.f kj58 t365 t366 t367 t368 t369 t370 t371 t372 t373 t374 t375 t376 t377 t378 t379 t380 t381 t382 t383 t384).bind fun bt393 => (laws_FnLives.j5 kj58 t387 t388 t389 t390 bt391.1 bt391.2 bt393.1 bt393.2))) = some r := H
              have A128 := Aside0.mk A1280
              clear A1280
              replace H := Option.bind_eq_some_iff.mp H
              obtain ⟨⟨t391, t392⟩, A1290, H⟩ := H
              replace H : ((impl_SameBundle.f kj58 t365 t366 t367 t368 t369 t370 t371 t372 t373 t374 t375 t376 t377 t378 t379 t380 t381 t382 t383 t384).bind fun bt393 => (laws_FnLives.j5 kj58 t387 t388 t389 t390 t391 t392 bt393.1 bt393.2)) = some r := H
              have A129 := Aside0.mk A1290
              clear A1290
              have HC130 := Aside0.mk H
              clear H
              go_upto_region 25 with (first | ((with_reducible refine gate_callee (f := 19) rfl ?_); refine goesL_ (some 137) rfl rfl Tryd.func19 (by kernel_rfl) rfl #[.slice A1 l1.length c1] rfl (by (try simp only [List.map_toArray, List.map_cons, List.map_nil]); first | done | rfl | (simp only [List.length_drop, List.length_take]; rfl)) ?_; (with_reducible refine (spec_DrawSameBundle.calls kj58 _ _ l1 t365 t366 t367 t368 t369 t370 t371 t372 t373 t374 t375 t376 t377 t378 t379 t380 t381 t382 t383 t384 _ ?side1 ?side2 A126.out).mono ?_); (case side1 => repeat (first | exact (Kd.C_below HR1.out HB.out) | (with_reducible refine Kd.C_alloc ?_ _) | (with_reducible refine Kd.C_drewN ?_ _) | (with_reducible refine Kd.C_drew ?_))); (case side2 => exact HC1.out); rintro e w131 ⟨rfl, hb⟩; refine ⟨_, rfl, ?_⟩; have n4_ := Aside0.mk (below_step (by repeat (first | (with_reducible first | exact HB.out | apply below_alloc | apply pw_below_drewN | apply below_drew1 | refine below_set ?_ GE320.out | refine below_set ?_ GE337.out | refine below_set ?_ GE349.out | refine below_set ?_ GE361.out) | exact HB.out | (with_reducible exact Below.refl _ _))) hb); clear HB; have HB := n4_; clear n4_; (try clear hb); (try clear hb2); (try clear hk); (try clear hi)) | ((with_reducible refine gate_dst (N := 20) rfl ?_); refine box_event ?hg (N := 20) ?hd (cs := #[.int .i64 0, .int .i64 0, .bool false, .int .i64 0, .int .i64 0, .int .i64 0, .int .i64 0, .int .i64 0, .int .i64 0, .string (⟨#[]⟩ : ByteArray)]) (t := 27) ?hr ?_; (case hd => rfl); (case hg => rfl); (case hr => first | (go_simp; done) | (go_simp; rfl)); intro gb385 hg w132 hbox hb; have n4_ := Aside0.mk (below_step (by repeat (first | (with_reducible first | exact HB.out | apply below_alloc | apply pw_below_drewN | apply below_drew1 | refine below_set ?_ GE320.out | refine below_set ?_ GE337.out | refine below_set ?_ GE349.out | refine below_set ?_ GE361.out) | exact HB.out | (with_reducible exact Below.refl _ _))) hb); have n5_ := Aside0.mk (hbox); have n6_ := Aside0.mk ((by rw [hg]; exact (below_size (by repeat (first | (with_reducible first | exact HB.out | apply below_alloc | apply pw_below_drewN | apply below_drew1 | refine below_set ?_ GE320.out | refine below_set ?_ GE337.out | refine below_set ?_ GE349.out | refine below_set ?_ GE361.out) | exact HB.out | (with_reducible exact Below.refl _ _)))) : w.heap.size ≤ gb385)); have n7_ := Aside0.mk ((by rw [hg]; exact (below_size (by repeat (first | (with_reducible first | exact HB.out | apply below_alloc | apply pw_below_drewN | apply below_drew1 | refine below_set ?_ GE320.out | refine below_set ?_ GE337.out | refine below_set ?_ GE349.out | refine below_set ?_ GE361.out) | exact HB.out | (with_reducible exact Below.refl _ _)))) : w.heap.size ≤ gb385)); clear HB; have HB := n4_; have BK385 := n5_; have GW385 := n6_; have GE385 := n7_; clear n4_ n5_ n6_ n7_; clear hb hbox hg) | ((with_reducible refine gate_dst (N := 21) rfl ?_); refine box_event ?hg (N := 21) ?hd (cs := #[.int .i64 0, .int .i64 0, .bool false, .int .i64 0, .int .i64 0, .int .i64 0, .int .i64 0, .int .i64 0, .int .i64 0, .string (⟨#[]⟩ : ByteArray)]) (t := 27) ?hr ?_; (case hd => rfl); (case hg => rfl); (case hr => first | (go_simp; done) | (go_simp; rfl)); intro gb386 hg w133 hbox hb; have n4_ := Aside0.mk (blk_below (g := gb385) (o := .cells #[.int .i64 0, .int .i64 0, .bool false, .int .i64 0, .int .i64 0, .int .i64 0, .int .i64 0, .int .i64 0, .int .i64 0, .string (⟨#[]⟩ : ByteArray)] 27 (0, 0)) (by (with_reducible repeat (first | refine blk_drewN ?_ _ | refine blk_drew ?_ | refine blk_alloc ?_ _)); exact BK385.out) hb); have n5_ := Aside0.mk (below_step (by repeat (first | (with_reducible first | exact HB.out | apply below_alloc | apply pw_below_drewN | apply below_drew1 | refine below_set ?_ GE320.out | refine below_set ?_ GE337.out | refine below_set ?_ GE349.out | refine below_set ?_ GE361.out | refine below_set ?_ GE385.out) | exact HB.out | (with_reducible exact Below.refl _ _))) hb); have n6_ := Aside0.mk (hbox); have n7_ := Aside0.mk ((by rw [hg]; exact (below_size (by repeat (first | (with_reducible first | exact HB.out | apply below_alloc | apply pw_below_drewN | apply below_drew1 | refine below_set ?_ GE320.out | refine below_set ?_ GE337.out | refine below_set ?_ GE349.out | refine below_set ?_ GE361.out | refine below_set ?_ GE385.out) | exact HB.out | (with_reducible exact Below.refl _ _)))) : w.heap.size ≤ gb386)); have n8_ := Aside0.mk ((by rw [hg]; exact (below_size (by repeat (first | (with_reducible first | exact HB.out | apply below_alloc | apply pw_below_drewN | apply below_drew1 | refine below_set ?_ GE320.out | refine below_set ?_ GE337.out | refine below_set ?_ GE349.out | refine below_set ?_ GE361.out | refine below_set ?_ GE385.out) | exact HB.out | (with_reducible exact Below.refl _ _)))) : w.heap.size ≤ gb386)); have n17_ := Aside0.mk ((by rw [hg]; exact Nat.ne_of_lt (blk_lt (g := gb385) (o := .cells #[.int .i64 0, .int .i64 0, .bool false, .int .i64 0, .int .i64 0, .int .i64 0, .int .i64 0, .int .i64 0, .int .i64 0, .string (⟨#[]⟩ : ByteArray)] 27 (0, 0)) (by (with_reducible repeat (first | refine blk_drewN ?_ _ | refine blk_drew ?_ | refine blk_alloc ?_ _)); exact BK385.out)) : gb385 ≠ gb386)); have n18_ := Aside0.mk ((by rw [hg]; exact Nat.ne_of_gt (blk_lt (g := gb385) (o := .cells #[.int .i64 0, .int .i64 0, .bool false, .int .i64 0, .int .i64 0, .int .i64 0, .int .i64 0, .int .i64 0, .int .i64 0, .string (⟨#[]⟩ : ByteArray)] 27 (0, 0)) (by (with_reducible repeat (first | refine blk_drewN ?_ _ | refine blk_drew ?_ | refine blk_alloc ?_ _)); exact BK385.out)) : gb386 ≠ gb385)); clear BK385; clear HB; have BK385 := n4_; have HB := n5_; have BK386 := n6_; have GW386 := n7_; have GE386 := n8_; have NB385_386 := n17_; have NB386_385 := n18_; clear n4_ n5_ n6_ n7_ n8_ n17_ n18_; clear hb hbox hg; have hnb138 := NB385_386.out; have hnc138 := NB386_385.out; have hcz139_0 : w133.cell? ⟨gb385, 0, none⟩ = some (.int .i64 0) := (blk_cell BK385.out 0).trans rfl; have hcz139_1 : w133.cell? ⟨gb385, 1, none⟩ = some (.int .i64 0) := (blk_cell BK385.out 1).trans rfl; have hcz139_2 : w133.cell? ⟨gb385, 2, none⟩ = some (.bool false) := (blk_cell BK385.out 2).trans rfl; have hcz139_3 : w133.cell? ⟨gb385, 3, none⟩ = some (.int .i64 0) := (blk_cell BK385.out 3).trans rfl; have hcz139_4 : w133.cell? ⟨gb385, 4, none⟩ = some (.int .i64 0) := (blk_cell BK385.out 4).trans rfl; have hcz139_5 : w133.cell? ⟨gb385, 5, none⟩ = some (.int .i64 0) := (blk_cell BK385.out 5).trans rfl; have hcz139_6 : w133.cell? ⟨gb385, 6, none⟩ = some (.int .i64 0) := (blk_cell BK385.out 6).trans rfl; have hcz139_7 : w133.cell? ⟨gb385, 7, none⟩ = some (.int .i64 0) := (blk_cell BK385.out 7).trans rfl; have hcz139_8 : w133.cell? ⟨gb385, 8, none⟩ = some (.int .i64 0) := (blk_cell BK385.out 8).trans rfl; have hcz139_9 : w133.cell? ⟨gb385, 9, none⟩ = some (.string (⟨#[]⟩ : ByteArray)) := (blk_cell BK385.out 9).trans rfl; have hfz139_0 := blk_frozen BK385.out 0; have hfz139_1 := blk_frozen BK385.out 1; have hfz139_2 := blk_frozen BK385.out 2; have hfz139_3 := blk_frozen BK385.out 3; have hfz139_4 := blk_frozen BK385.out 4; have hfz139_5 := blk_frozen BK385.out 5; have hfz139_6 := blk_frozen BK385.out 6; have hfz139_7 := blk_frozen BK385.out 7; have hfz139_8 := blk_frozen BK385.out 8; have hfz139_9 := blk_frozen BK385.out 9; have hcz144_0 : w133.cell? ⟨gb386, 0, none⟩ = some (.int .i64 0) := (blk_cell BK386.out 0).trans rfl; have hcz144_1 : w133.cell? ⟨gb386, 1, none⟩ = some (.int .i64 0) := (blk_cell BK386.out 1).trans rfl; have hcz144_2 : w133.cell? ⟨gb386, 2, none⟩ = some (.bool false) := (blk_cell BK386.out 2).trans rfl; have hcz144_3 : w133.cell? ⟨gb386, 3, none⟩ = some (.int .i64 0) := (blk_cell BK386.out 3).trans rfl; have hcz144_4 : w133.cell? ⟨gb386, 4, none⟩ = some (.int .i64 0) := (blk_cell BK386.out 4).trans rfl; have hcz144_5 : w133.cell? ⟨gb386, 5, none⟩ = some (.int .i64 0) := (blk_cell BK386.out 5).trans rfl; have hcz144_6 : w133.cell? ⟨gb386, 6, none⟩ = some (.int .i64 0) := (blk_cell BK386.out 6).trans rfl; have hcz144_7 : w133.cell? ⟨gb386, 7, none⟩ = some (.int .i64 0) := (blk_cell BK386.out 7).trans rfl; have hcz144_8 : w133.cell? ⟨gb386, 8, none⟩ = some (.int .i64 0) := (blk_cell BK386.out 8).trans rfl; have hcz144_9 : w133.cell? ⟨gb386, 9, none⟩ = some (.string (⟨#[]⟩ : ByteArray)) := (blk_cell BK386.out 9).trans rfl; have hfz144_0 := blk_frozen BK386.out 0; have hfz144_1 := blk_frozen BK386.out 1; have hfz144_2 := blk_frozen BK386.out 2; have hfz144_3 := blk_frozen BK386.out 3; have hfz144_4 := blk_frozen BK386.out 4; have hfz144_5 := blk_frozen BK386.out 5; have hfz144_6 := blk_frozen BK386.out 6; have hfz144_7 := blk_frozen BK386.out 7; have hfz144_8 := blk_frozen BK386.out 8; have hfz144_9 := blk_frozen BK386.out 9) | ((with_reducible refine gate_callee (f := 9) rfl ?_); refine goesL_ (some 142) rfl rfl Tryd.func9 (by kernel_rfl) rfl #[.agg #[.int .i64 t365, .int .i64 t366, .bool t367, .int .i64 t368, .int .i64 t369, .int .i64 t370, .int .i64 t371, .int .i64 t372, .int .i64 t373, .string t374]] rfl (by (try simp only [List.map_toArray, List.map_cons, List.map_nil]); first | done | rfl | (simp only [List.length_drop, List.length_take]; rfl)) ?_; (with_reducible refine (impl_IdOf.calls kj58 t365 t366 t367 t368 t369 t370 t371 t372 t373 t374 t387 t388 _ ?side1 A127.out).mono ?_); (case side1 => exact TabW.below HTB.out (by repeat (first | (with_reducible first | exact HB.out | apply below_alloc | apply pw_below_drewN | apply below_drew1 | refine below_set ?_ GE320.out | refine below_set ?_ GE337.out | refine below_set ?_ GE349.out | refine below_set ?_ GE361.out | refine below_set ?_ GE385.out | refine below_set ?_ GE386.out) | exact HB.out | (with_reducible exact Below.refl _ _)))); rintro e w145 ⟨rfl, hb⟩; refine ⟨_, rfl, ?_⟩; have n4_ := Aside0.mk (blk_below (g := gb385) (o := .cells #[.int .i64 t365, .int .i64 t366, .bool t367, .int .i64 t368, .int .i64 t369, .int .i64 t370, .int .i64 t371, .int .i64 t372, .int .i64 t373, .string t374] 27 (0, 0)) (by (with_reducible repeat (first | refine blk_drewN ?_ _ | refine blk_drew ?_ | refine blk_alloc ?_ _)); refine blk_far ?_ NB385_386.out _; (with_reducible repeat (first | refine blk_drewN ?_ _ | refine blk_drew ?_ | refine blk_alloc ?_ _)); refine blk_far ?_ NB385_386.out _; (with_reducible repeat (first | refine blk_drewN ?_ _ | refine blk_drew ?_ | refine blk_alloc ?_ _)); refine blk_far ?_ NB385_386.out _; (with_reducible repeat (first | refine blk_drewN ?_ _ | refine blk_drew ?_ | refine blk_alloc ?_ _)); refine blk_far ?_ NB385_386.out _; (with_reducible repeat (first | refine blk_drewN ?_ _ | refine blk_drew ?_ | refine blk_alloc ?_ _)); refine blk_far ?_ NB385_386.out _; (with_reducible repeat (first | refine blk_drewN ?_ _ | refine blk_drew ?_ | refine blk_alloc ?_ _)); refine blk_far ?_ NB385_386.out _; (with_reducible repeat (first | refine blk_drewN ?_ _ | refine blk_drew ?_ | refine blk_alloc ?_ _)); refine blk_far ?_ NB385_386.out _; (with_reducible repeat (first | refine blk_drewN ?_ _ | refine blk_drew ?_ | refine blk_alloc ?_ _)); refine blk_far ?_ NB385_386.out _; (with_reducible repeat (first | refine blk_drewN ?_ _ | refine blk_drew ?_ | refine blk_alloc ?_ _)); refine blk_far ?_ NB385_386.out _; (with_reducible repeat (first | refine blk_drewN ?_ _ | refine blk_drew ?_ | refine blk_alloc ?_ _)); refine blk_far ?_ NB385_386.out _; (with_reducible repeat (first | refine blk_drewN ?_ _ | refine blk_drew ?_ | refine blk_alloc ?_ _)); refine blk_put (cs := #[.int .i64 t365, .int .i64 t366, .bool t367, .int .i64 t368, .int .i64 t369, .int .i64 t370, .int .i64 t371, .int .i64 t372, .int .i64 t373, .string (⟨#[]⟩ : ByteArray)]) ?_ 9 _ rfl; (with_reducible repeat (first | refine blk_drewN ?_ _ | refine blk_drew ?_ | refine blk_alloc ?_ _)); refine blk_put (cs := #[.int .i64 t365, .int .i64 t366, .bool t367, .int .i64 t368, .int .i64 t369, .int .i64 t370, .int .i64 t371, .int .i64 t372, .int .i64 0, .string (⟨#[]⟩ : ByteArray)]) ?_ 8 _ rfl; (with_reducible repeat (first | refine blk_drewN ?_ _ | refine blk_drew ?_ | refine blk_alloc ?_ _)); refine blk_put (cs := #[.int .i64 t365, .int .i64 t366, .bool t367, .int .i64 t368, .int .i64 t369, .int .i64 t370, .int .i64 t371, .int .i64 0, .int .i64 0, .string (⟨#[]⟩ : ByteArray)]) ?_ 7 _ rfl; (with_reducible repeat (first | refine blk_drewN ?_ _ | refine blk_drew ?_ | refine blk_alloc ?_ _)); refine blk_put (cs := #[.int .i64 t365, .int .i64 t366, .bool t367, .int .i64 t368, .int .i64 t369, .int .i64 t370, .int .i64 0, .int .i64 0, .int .i64 0, .string (⟨#[]⟩ : ByteArray)]) ?_ 6 _ rfl; (with_reducible repeat (first | refine blk_drewN ?_ _ | refine blk_drew ?_ | refine blk_alloc ?_ _)); refine blk_put (cs := #[.int .i64 t365, .int .i64 t366, .bool t367, .int .i64 t368, .int .i64 t369, .int .i64 0, .int .i64 0, .int .i64 0, .int .i64 0, .string (⟨#[]⟩ : ByteArray)]) ?_ 5 _ rfl; (with_reducible repeat (first | refine blk_drewN ?_ _ | refine blk_drew ?_ | refine blk_alloc ?_ _)); refine blk_put (cs := #[.int .i64 t365, .int .i64 t366, .bool t367, .int .i64 t368, .int .i64 0, .int .i64 0, .int .i64 0, .int .i64 0, .int .i64 0, .string (⟨#[]⟩ : ByteArray)]) ?_ 4 _ rfl; (with_reducible repeat (first | refine blk_drewN ?_ _ | refine blk_drew ?_ | refine blk_alloc ?_ _)); refine blk_put (cs := #[.int .i64 t365, .int .i64 t366, .bool t367, .int .i64 0, .int .i64 0, .int .i64 0, .int .i64 0, .int .i64 0, .int .i64 0, .string (⟨#[]⟩ : ByteArray)]) ?_ 3 _ rfl; (with_reducible repeat (first | refine blk_drewN ?_ _ | refine blk_drew ?_ | refine blk_alloc ?_ _)); refine blk_put (cs := #[.int .i64 t365, .int .i64 t366, .bool false, .int .i64 0, .int .i64 0, .int .i64 0, .int .i64 0, .int .i64 0, .int .i64 0, .string (⟨#[]⟩ : ByteArray)]) ?_ 2 _ rfl; (with_reducible repeat (first | refine blk_drewN ?_ _ | refine blk_drew ?_ | refine blk_alloc ?_ _)); refine blk_put (cs := #[.int .i64 t365, .int .i64 0, .bool false, .int .i64 0, .int .i64 0, .int .i64 0, .int .i64 0, .int .i64 0, .int .i64 0, .string (⟨#[]⟩ : ByteArray)]) ?_ 1 _ rfl; (with_reducible repeat (first | refine blk_drewN ?_ _ | refine blk_drew ?_ | refine blk_alloc ?_ _)); refine blk_put (cs := #[.int .i64 0, .int .i64 0, .bool false, .int .i64 0, .int .i64 0, .int .i64 0, .int .i64 0, .int .i64 0, .int .i64 0, .string (⟨#[]⟩ : ByteArray)]) ?_ 0 _ rfl; (with_reducible repeat (first | refine blk_drewN ?_ _ | refine blk_drew ?_ | refine blk_alloc ?_ _)); exact BK385.out) hb); have n5_ := Aside0.mk (blk_below (g := gb386) (o := .cells #[.int .i64 t375, .int .i64 t376, .bool t377, .int .i64 t378, .int .i64 t379, .int .i64 t380, .int .i64 t381, .int .i64 t382, .int .i64 t383, .string t384] 27 (0, 0)) (by (with_reducible repeat (first | refine blk_drewN ?_ _ | refine blk_drew ?_ | refine blk_alloc ?_ _)); refine blk_put (cs := #[.int .i64 t375, .int .i64 t376, .bool t377, .int .i64 t378, .int .i64 t379, .int .i64 t380, .int .i64 t381, .int .i64 t382, .int .i64 t383, .string (⟨#[]⟩ : ByteArray)]) ?_ 9 _ rfl; (with_reducible repeat (first | refine blk_drewN ?_ _ | refine blk_drew ?_ | refine blk_alloc ?_ _)); refine blk_put (cs := #[.int .i64 t375, .int .i64 t376, .bool t377, .int .i64 t378, .int .i64 t379, .int .i64 t380, .int .i64 t381, .int .i64 t382, .int .i64 0, .string (⟨#[]⟩ : ByteArray)]) ?_ 8 _ rfl; (with_reducible repeat (first | refine blk_drewN ?_ _ | refine blk_drew ?_ | refine blk_alloc ?_ _)); refine blk_put (cs := #[.int .i64 t375, .int .i64 t376, .bool t377, .int .i64 t378, .int .i64 t379, .int .i64 t380, .int .i64 t381, .int .i64 0, .int .i64 0, .string (⟨#[]⟩ : ByteArray)]) ?_ 7 _ rfl; (with_reducible repeat (first | refine blk_drewN ?_ _ | refine blk_drew ?_ | refine blk_alloc ?_ _)); refine blk_put (cs := #[.int .i64 t375, .int .i64 t376, .bool t377, .int .i64 t378, .int .i64 t379, .int .i64 t380, .int .i64 0, .int .i64 0, .int .i64 0, .string (⟨#[]⟩ : ByteArray)]) ?_ 6 _ rfl; (with_reducible repeat (first | refine blk_drewN ?_ _ | refine blk_drew ?_ | refine blk_alloc ?_ _)); refine blk_put (cs := #[.int .i64 t375, .int .i64 t376, .bool t377, .int .i64 t378, .int .i64 t379, .int .i64 0, .int .i64 0, .int .i64 0, .int .i64 0, .string (⟨#[]⟩ : ByteArray)]) ?_ 5 _ rfl; (with_reducible repeat (first | refine blk_drewN ?_ _ | refine blk_drew ?_ | refine blk_alloc ?_ _)); refine blk_put (cs := #[.int .i64 t375, .int .i64 t376, .bool t377, .int .i64 t378, .int .i64 0, .int .i64 0, .int .i64 0, .int .i64 0, .int .i64 0, .string (⟨#[]⟩ : ByteArray)]) ?_ 4 _ rfl; (with_reducible repeat (first | refine blk_drewN ?_ _ | refine blk_drew ?_ | refine blk_alloc ?_ _)); refine blk_put (cs := #[.int .i64 t375, .int .i64 t376, .bool t377, .int .i64 0, .int .i64 0, .int .i64 0, .int .i64 0, .int .i64 0, .int .i64 0, .string (⟨#[]⟩ : ByteArray)]) ?_ 3 _ rfl; (with_reducible repeat (first | refine blk_drewN ?_ _ | refine blk_drew ?_ | refine blk_alloc ?_ _)); refine blk_put (cs := #[.int .i64 t375, .int .i64 t376, .bool false, .int .i64 0, .int .i64 0, .int .i64 0, .int .i64 0, .int .i64 0, .int .i64 0, .string (⟨#[]⟩ : ByteArray)]) ?_ 2 _ rfl; (with_reducible repeat (first | refine blk_drewN ?_ _ | refine blk_drew ?_ | refine blk_alloc ?_ _)); refine blk_put (cs := #[.int .i64 t375, .int .i64 0, .bool false, .int .i64 0, .int .i64 0, .int .i64 0, .int .i64 0, .int .i64 0, .int .i64 0, .string (⟨#[]⟩ : ByteArray)]) ?_ 1 _ rfl; (with_reducible repeat (first | refine blk_drewN ?_ _ | refine blk_drew ?_ | refine blk_alloc ?_ _)); refine blk_put (cs := #[.int .i64 0, .int .i64 0, .bool false, .int .i64 0, .int .i64 0, .int .i64 0, .int .i64 0, .int .i64 0, .int .i64 0, .string (⟨#[]⟩ : ByteArray)]) ?_ 0 _ rfl; (with_reducible repeat (first | refine blk_drewN ?_ _ | refine blk_drew ?_ | refine blk_alloc ?_ _)); refine blk_far ?_ NB386_385.out _; (with_reducible repeat (first | refine blk_drewN ?_ _ | refine blk_drew ?_ | refine blk_alloc ?_ _)); refine blk_far ?_ NB386_385.out _; (with_reducible repeat (first | refine blk_drewN ?_ _ | refine blk_drew ?_ | refine blk_alloc ?_ _)); refine blk_far ?_ NB386_385.out _; (with_reducible repeat (first | refine blk_drewN ?_ _ | refine blk_drew ?_ | refine blk_alloc ?_ _)); refine blk_far ?_ NB386_385.out _; (with_reducible repeat (first | refine blk_drewN ?_ _ | refine blk_drew ?_ | refine blk_alloc ?_ _)); refine blk_far ?_ NB386_385.out _; (with_reducible repeat (first | refine blk_drewN ?_ _ | refine blk_drew ?_ | refine blk_alloc ?_ _)); refine blk_far ?_ NB386_385.out _; (with_reducible repeat (first | refine blk_drewN ?_ _ | refine blk_drew ?_ | refine blk_alloc ?_ _)); refine blk_far ?_ NB386_385.out _; (with_reducible repeat (first | refine blk_drewN ?_ _ | refine blk_drew ?_ | refine blk_alloc ?_ _)); refine blk_far ?_ NB386_385.out _; (with_reducible repeat (first | refine blk_drewN ?_ _ | refine blk_drew ?_ | refine blk_alloc ?_ _)); refine blk_far ?_ NB386_385.out _; (with_reducible repeat (first | refine blk_drewN ?_ _ | refine blk_drew ?_ | refine blk_alloc ?_ _)); refine blk_far ?_ NB386_385.out _; (with_reducible repeat (first | refine blk_drewN ?_ _ | refine blk_drew ?_ | refine blk_alloc ?_ _)); exact BK386.out) hb); have n6_ := Aside0.mk (below_step (by repeat (first | (with_reducible first | exact HB.out | apply below_alloc | apply pw_below_drewN | apply below_drew1 | refine below_set ?_ GE320.out | refine below_set ?_ GE337.out | refine below_set ?_ GE349.out | refine below_set ?_ GE361.out | refine below_set ?_ GE385.out | refine below_set ?_ GE386.out) | exact HB.out | (with_reducible exact Below.refl _ _))) hb); clear BK385; clear BK386; clear HB; have BK385 := n4_; have BK386 := n5_; have HB := n6_; clear n4_ n5_ n6_; (try clear hb); (try clear hb2); (try clear hk); (try clear hi); have hcz146_0 : w145.cell? ⟨gb385, 0, none⟩ = some (.int .i64 t365) := (blk_cell BK385.out 0).trans rfl; have hcz146_1 : w145.cell? ⟨gb385, 1, none⟩ = some (.int .i64 t366) := (blk_cell BK385.out 1).trans rfl; have hcz146_2 : w145.cell? ⟨gb385, 2, none⟩ = some (.bool t367) := (blk_cell BK385.out 2).trans rfl; have hcz146_3 : w145.cell? ⟨gb385, 3, none⟩ = some (.int .i64 t368) := (blk_cell BK385.out 3).trans rfl; have hcz146_4 : w145.cell? ⟨gb385, 4, none⟩ = some (.int .i64 t369) := (blk_cell BK385.out 4).trans rfl; have hcz146_5 : w145.cell? ⟨gb385, 5, none⟩ = some (.int .i64 t370) := (blk_cell BK385.out 5).trans rfl; have hcz146_6 : w145.cell? ⟨gb385, 6, none⟩ = some (.int .i64 t371) := (blk_cell BK385.out 6).trans rfl; have hcz146_7 : w145.cell? ⟨gb385, 7, none⟩ = some (.int .i64 t372) := (blk_cell BK385.out 7).trans rfl; have hcz146_8 : w145.cell? ⟨gb385, 8, none⟩ = some (.int .i64 t373) := (blk_cell BK385.out 8).trans rfl; have hcz146_9 : w145.cell? ⟨gb385, 9, none⟩ = some (.string t374) := (blk_cell BK385.out 9).trans rfl; have hfz146_0 := blk_frozen BK385.out 0; have hfz146_1 := blk_frozen BK385.out 1; have hfz146_2 := blk_frozen BK385.out 2; have hfz146_3 := blk_frozen BK385.out 3; have hfz146_4 := blk_frozen BK385.out 4; have hfz146_5 := blk_frozen BK385.out 5; have hfz146_6 := blk_frozen BK385.out 6; have hfz146_7 := blk_frozen BK385.out 7; have hfz146_8 := blk_frozen BK385.out 8; have hfz146_9 := blk_frozen BK385.out 9) | ((with_reducible refine gate_callee (f := 7) rfl ?_); refine goesL_ (some 147) rfl rfl Tryd.func7 (by kernel_rfl) rfl #[.agg #[.int .i64 t365, .int .i64 t366, .bool t367, .int .i64 t368, .int .i64 t369, .int .i64 t370, .int .i64 t371, .int .i64 t372, .int .i64 t373, .string t374]] rfl (by (try simp only [List.map_toArray, List.map_cons, List.map_nil]); first | done | rfl | (simp only [List.length_drop, List.length_take]; rfl)) ?_; (with_reducible refine (spec_IdOf.calls kj58 t365 t366 t367 t368 t369 t370 t371 t372 t373 t374 t389 t390 _ A128.out).mono ?_); rintro e w147 ⟨rfl, hb⟩; refine ⟨_, rfl, ?_⟩; have n4_ := Aside0.mk (blk_below (g := gb385) (o := .cells #[.int .i64 t365, .int .i64 t366, .bool t367, .int .i64 t368, .int .i64 t369, .int .i64 t370, .int .i64 t371, .int .i64 t372, .int .i64 t373, .string t374] 27 (0, 0)) (by (with_reducible repeat (first | refine blk_drewN ?_ _ | refine blk_drew ?_ | refine blk_alloc ?_ _)); exact BK385.out) hb); have n5_ := Aside0.mk (blk_below (g := gb386) (o := .cells #[.int .i64 t375, .int .i64 t376, .bool t377, .int .i64 t378, .int .i64 t379, .int .i64 t380, .int .i64 t381, .int .i64 t382, .int .i64 t383, .string t384] 27 (0, 0)) (by (with_reducible repeat (first | refine blk_drewN ?_ _ | refine blk_drew ?_ | refine blk_alloc ?_ _)); exact BK386.out) hb); have n6_ := Aside0.mk (below_step (by repeat (first | (with_reducible first | exact HB.out | apply below_alloc | apply pw_below_drewN | apply below_drew1 | refine below_set ?_ GE320.out | refine below_set ?_ GE337.out | refine below_set ?_ GE349.out | refine below_set ?_ GE361.out | refine below_set ?_ GE385.out | refine below_set ?_ GE386.out) | exact HB.out | (with_reducible exact Below.refl _ _))) hb); clear BK385; clear BK386; clear HB; have BK385 := n4_; have BK386 := n5_; have HB := n6_; clear n4_ n5_ n6_; (try clear hb); (try clear hb2); (try clear hk); (try clear hi); have hcz148_0 : w147.cell? ⟨gb386, 0, none⟩ = some (.int .i64 t375) := (blk_cell BK386.out 0).trans rfl; have hcz148_1 : w147.cell? ⟨gb386, 1, none⟩ = some (.int .i64 t376) := (blk_cell BK386.out 1).trans rfl; have hcz148_2 : w147.cell? ⟨gb386, 2, none⟩ = some (.bool t377) := (blk_cell BK386.out 2).trans rfl; have hcz148_3 : w147.cell? ⟨gb386, 3, none⟩ = some (.int .i64 t378) := (blk_cell BK386.out 3).trans rfl; have hcz148_4 : w147.cell? ⟨gb386, 4, none⟩ = some (.int .i64 t379) := (blk_cell BK386.out 4).trans rfl; have hcz148_5 : w147.cell? ⟨gb386, 5, none⟩ = some (.int .i64 t380) := (blk_cell BK386.out 5).trans rfl; have hcz148_6 : w147.cell? ⟨gb386, 6, none⟩ = some (.int .i64 t381) := (blk_cell BK386.out 6).trans rfl; have hcz148_7 : w147.cell? ⟨gb386, 7, none⟩ = some (.int .i64 t382) := (blk_cell BK386.out 7).trans rfl; have hcz148_8 : w147.cell? ⟨gb386, 8, none⟩ = some (.int .i64 t383) := (blk_cell BK386.out 8).trans rfl; have hcz148_9 : w147.cell? ⟨gb386, 9, none⟩ = some (.string t384) := (blk_cell BK386.out 9).trans rfl; have hfz148_0 := blk_frozen BK386.out 0; have hfz148_1 := blk_frozen BK386.out 1; have hfz148_2 := blk_frozen BK386.out 2; have hfz148_3 := blk_frozen BK386.out 3; have hfz148_4 := blk_frozen BK386.out 4; have hfz148_5 := blk_frozen BK386.out 5; have hfz148_6 := blk_frozen BK386.out 6; have hfz148_7 := blk_frozen BK386.out 7; have hfz148_8 := blk_frozen BK386.out 8; have hfz148_9 := blk_frozen BK386.out 9) | ((with_reducible refine gate_callee (f := 9) rfl ?_); refine goesL_ (some 152) rfl rfl Tryd.func9 (by kernel_rfl) rfl #[.agg #[.int .i64 t375, .int .i64 t376, .bool t377, .int .i64 t378, .int .i64 t379, .int .i64 t380, .int .i64 t381, .int .i64 t382, .int .i64 t383, .string t384]] rfl (by (try simp only [List.map_toArray, List.map_cons, List.map_nil]); first | done | rfl | (simp only [List.length_drop, List.length_take]; rfl)) ?_; (with_reducible refine (impl_IdOf.calls kj58 t375 t376 t377 t378 t379 t380 t381 t382 t383 t384 t391 t392 _ ?side1 A129.out).mono ?_); (case side1 => exact TabW.below HTB.out (by repeat (first | (with_reducible first | exact HB.out | apply below_alloc | apply pw_below_drewN | apply below_drew1 | refine below_set ?_ GE320.out | refine below_set ?_ GE337.out | refine below_set ?_ GE349.out | refine below_set ?_ GE361.out | refine below_set ?_ GE385.out | refine below_set ?_ GE386.out) | exact HB.out | (with_reducible exact Below.refl _ _)))); rintro e w149 ⟨rfl, hb⟩; refine ⟨_, rfl, ?_⟩; have n4_ := Aside0.mk (blk_below (g := gb385) (o := .cells #[.int .i64 t365, .int .i64 t366, .bool t367, .int .i64 t368, .int .i64 t369, .int .i64 t370, .int .i64 t371, .int .i64 t372, .int .i64 t373, .string t374] 27 (0, 0)) (by (with_reducible repeat (first | refine blk_drewN ?_ _ | refine blk_drew ?_ | refine blk_alloc ?_ _)); exact BK385.out) hb); have n5_ := Aside0.mk (blk_below (g := gb386) (o := .cells #[.int .i64 t375, .int .i64 t376, .bool t377, .int .i64 t378, .int .i64 t379, .int .i64 t380, .int .i64 t381, .int .i64 t382, .int .i64 t383, .string t384] 27 (0, 0)) (by (with_reducible repeat (first | refine blk_drewN ?_ _ | refine blk_drew ?_ | refine blk_alloc ?_ _)); exact BK386.out) hb); have n6_ := Aside0.mk (below_step (by repeat (first | (with_reducible first | exact HB.out | apply below_alloc | apply pw_below_drewN | apply below_drew1 | refine below_set ?_ GE320.out | refine below_set ?_ GE337.out | refine below_set ?_ GE349.out | refine below_set ?_ GE361.out | refine below_set ?_ GE385.out | refine below_set ?_ GE386.out) | exact HB.out | (with_reducible exact Below.refl _ _))) hb); clear BK385; clear BK386; clear HB; have BK385 := n4_; have BK386 := n5_; have HB := n6_; clear n4_ n5_ n6_; (try clear hb); (try clear hb2); (try clear hk); (try clear hi)))
              (try simp only [Act.put, List.setIfInBounds_toArray, List.set_cons_zero, List.set_cons_succ])
              go_cut [28, 29] (fun v28 v29 wc => ∃ (kq : Nat) (x28_129 : Bool) (x29_129 : Bool), v28 = .bool x28_129 ∧ v29 = .bool x29_129 ∧ Aside0 (laws_FnLives.j5 kq t387 t388 t389 t390 t391 t392 x28_129 x29_129 = some r) ∧ Aside0 (kq ≤ kj58) ∧ Aside0 (Below w.heap.size w wc))
              case first =>
               have H := HC130.out
               clear HC130
               replace H := Option.bind_eq_some_iff.mp H
               obtain ⟨⟨t393, t394⟩, A1500, H⟩ := H
               replace H : (laws_FnLives.j5 kj58 t387 t388 t389 t390 t391 t392 t393 t394) = some r := H
               have A150 := Aside0.mk A1500
               clear A1500
               have H' := Aside0.mk H
               clear H
               have hnb155 := NB385_386.out
               have hnc155 := NB386_385.out
               have hcz156_0 : w149.cell? ⟨gb385, 0, none⟩ = some (.int .i64 t365) := (blk_cell BK385.out 0).trans rfl
               have hcz156_1 : w149.cell? ⟨gb385, 1, none⟩ = some (.int .i64 t366) := (blk_cell BK385.out 1).trans rfl
               have hcz156_2 : w149.cell? ⟨gb385, 2, none⟩ = some (.bool t367) := (blk_cell BK385.out 2).trans rfl
               have hcz156_3 : w149.cell? ⟨gb385, 3, none⟩ = some (.int .i64 t368) := (blk_cell BK385.out 3).trans rfl
               have hcz156_4 : w149.cell? ⟨gb385, 4, none⟩ = some (.int .i64 t369) := (blk_cell BK385.out 4).trans rfl
               have hcz156_5 : w149.cell? ⟨gb385, 5, none⟩ = some (.int .i64 t370) := (blk_cell BK385.out 5).trans rfl
               have hcz156_6 : w149.cell? ⟨gb385, 6, none⟩ = some (.int .i64 t371) := (blk_cell BK385.out 6).trans rfl
               have hcz156_7 : w149.cell? ⟨gb385, 7, none⟩ = some (.int .i64 t372) := (blk_cell BK385.out 7).trans rfl
               have hcz156_8 : w149.cell? ⟨gb385, 8, none⟩ = some (.int .i64 t373) := (blk_cell BK385.out 8).trans rfl
               have hcz156_9 : w149.cell? ⟨gb385, 9, none⟩ = some (.string t374) := (blk_cell BK385.out 9).trans rfl
               have hfz156_0 := blk_frozen BK385.out 0
               have hfz156_1 := blk_frozen BK385.out 1
               have hfz156_2 := blk_frozen BK385.out 2
               have hfz156_3 := blk_frozen BK385.out 3
               have hfz156_4 := blk_frozen BK385.out 4
               have hfz156_5 := blk_frozen BK385.out 5
               have hfz156_6 := blk_frozen BK385.out 6
               have hfz156_7 := blk_frozen BK385.out 7
               have hfz156_8 := blk_frozen BK385.out 8
               have hfz156_9 := blk_frozen BK385.out 9
               have hcz161_0 : w149.cell? ⟨gb386, 0, none⟩ = some (.int .i64 t375) := (blk_cell BK386.out 0).trans rfl
               have hcz161_1 : w149.cell? ⟨gb386, 1, none⟩ = some (.int .i64 t376) := (blk_cell BK386.out 1).trans rfl
               have hcz161_2 : w149.cell? ⟨gb386, 2, none⟩ = some (.bool t377) := (blk_cell BK386.out 2).trans rfl
               have hcz161_3 : w149.cell? ⟨gb386, 3, none⟩ = some (.int .i64 t378) := (blk_cell BK386.out 3).trans rfl
               have hcz161_4 : w149.cell? ⟨gb386, 4, none⟩ = some (.int .i64 t379) := (blk_cell BK386.out 4).trans rfl
               have hcz161_5 : w149.cell? ⟨gb386, 5, none⟩ = some (.int .i64 t380) := (blk_cell BK386.out 5).trans rfl
               have hcz161_6 : w149.cell? ⟨gb386, 6, none⟩ = some (.int .i64 t381) := (blk_cell BK386.out 6).trans rfl
               have hcz161_7 : w149.cell? ⟨gb386, 7, none⟩ = some (.int .i64 t382) := (blk_cell BK386.out 7).trans rfl
               have hcz161_8 : w149.cell? ⟨gb386, 8, none⟩ = some (.int .i64 t383) := (blk_cell BK386.out 8).trans rfl
               have hcz161_9 : w149.cell? ⟨gb386, 9, none⟩ = some (.string t384) := (blk_cell BK386.out 9).trans rfl
               have hfz161_0 := blk_frozen BK386.out 0
               have hfz161_1 := blk_frozen BK386.out 1
               have hfz161_2 := blk_frozen BK386.out 2
               have hfz161_3 := blk_frozen BK386.out 3
               have hfz161_4 := blk_frozen BK386.out 4
               have hfz161_5 := blk_frozen BK386.out 5
               have hfz161_6 := blk_frozen BK386.out 6
               have hfz161_7 := blk_frozen BK386.out 7
               have hfz161_8 := blk_frozen BK386.out 8
               have hfz161_9 := blk_frozen BK386.out 9
               go_wp2_with (first | ((with_reducible refine gate_callee (f := 11) rfl ?_); refine goesL_ (some 158) rfl rfl Tryd.func11 (by kernel_rfl) rfl #[.agg #[.int .i64 t365, .int .i64 t366, .bool t367, .int .i64 t368, .int .i64 t369, .int .i64 t370, .int .i64 t371, .int .i64 t372, .int .i64 t373, .string t374], .agg #[.int .i64 t375, .int .i64 t376, .bool t377, .int .i64 t378, .int .i64 t379, .int .i64 t380, .int .i64 t381, .int .i64 t382, .int .i64 t383, .string t384]] rfl (by (try simp only [List.map_toArray, List.map_cons, List.map_nil]); first | done | rfl | (simp only [List.length_drop, List.length_take]; rfl)) ?_; (with_reducible refine (impl_SameBundle.calls kj58 t365 t366 t367 t368 t369 t370 t371 t372 t373 t374 t375 t376 t377 t378 t379 t380 t381 t382 t383 t384 t393 t394 _ ?side1 A150.out).mono ?_); (case side1 => exact TabW.below HTB.out (by repeat (first | (with_reducible first | exact HB.out | apply below_alloc | apply pw_below_drewN | apply below_drew1 | refine below_set ?_ GE320.out | refine below_set ?_ GE337.out | refine below_set ?_ GE349.out | refine below_set ?_ GE361.out | refine below_set ?_ GE385.out | refine below_set ?_ GE386.out) | exact HB.out | (with_reducible exact Below.refl _ _)))); rintro e w162 ⟨rfl, hb⟩; refine ⟨_, rfl, ?_⟩; have n4_ := Aside0.mk (blk_below (g := gb385) (o := .cells #[.int .i64 t365, .int .i64 t366, .bool t367, .int .i64 t368, .int .i64 t369, .int .i64 t370, .int .i64 t371, .int .i64 t372, .int .i64 t373, .string t374] 27 (0, 0)) (by (with_reducible repeat (first | refine blk_drewN ?_ _ | refine blk_drew ?_ | refine blk_alloc ?_ _)); exact BK385.out) hb); have n5_ := Aside0.mk (blk_below (g := gb386) (o := .cells #[.int .i64 t375, .int .i64 t376, .bool t377, .int .i64 t378, .int .i64 t379, .int .i64 t380, .int .i64 t381, .int .i64 t382, .int .i64 t383, .string t384] 27 (0, 0)) (by (with_reducible repeat (first | refine blk_drewN ?_ _ | refine blk_drew ?_ | refine blk_alloc ?_ _)); exact BK386.out) hb); have n6_ := Aside0.mk (below_step (by repeat (first | (with_reducible first | exact HB.out | apply below_alloc | apply pw_below_drewN | apply below_drew1 | refine below_set ?_ GE320.out | refine below_set ?_ GE337.out | refine below_set ?_ GE349.out | refine below_set ?_ GE361.out | refine below_set ?_ GE385.out | refine below_set ?_ GE386.out) | exact HB.out | (with_reducible exact Below.refl _ _))) hb); clear BK385; clear BK386; clear HB; have BK385 := n4_; have BK386 := n5_; have HB := n6_; clear n4_ n5_ n6_; (try clear hb); (try clear hb2); (try clear hk); (try clear hi)))
               go_meet
               case rel => exact ⟨_, (t393), (t394), (by first | rfl | (simp; done) | (simp [*]; done)), (by first | rfl | (simp; done) | (simp [*]; done)), H', ⟨by have := HJ6.out; have := HJ15.out; have := HJ18.out; have := HJ32.out; have := HJ58.out; first | omega | exact Nat.le_refl _⟩, ⟨by repeat (first | (with_reducible first | exact HB.out | apply below_alloc | apply pw_below_drewN | apply below_drew1 | refine below_set ?_ GE320.out | refine below_set ?_ GE337.out | refine below_set ?_ GE349.out | refine below_set ?_ GE361.out | refine below_set ?_ GE385.out | refine below_set ?_ GE386.out) | exact HB.out | (with_reducible exact Below.refl _ _))⟩⟩
              case rest =>
               clear HC130
               try clear c1
               try clear p2
               try clear p6
               try clear c7
               try clear c9
               try clear c11
               try clear c13
               try clear c14
               try clear c15
               try clear c16
               try clear c19
               try clear c134
               try clear c135
               try clear c136
               try clear c137
               try clear c138
               try clear c140
               try clear c141
               try clear c142
               try clear c143
               try clear c151
               try clear c152
               try clear c153
               try clear c154
               try clear c155
               try clear c157
               try clear c158
               try clear c159
               try clear c160
               try clear hcz121_7
               try clear hcz121_8
               try clear hcz121_9
               try clear hcz124_0
               try clear hcz124_1
               try clear hcz124_2
               try clear hcz124_3
               try clear hcz124_4
               try clear hcz124_5
               try clear hcz124_6
               try clear hcz124_7
               try clear hcz124_8
               try clear hcz124_9
               try clear hcz139_0
               try clear hcz139_1
               try clear hcz139_2
               try clear hcz139_3
               try clear hcz139_4
               try clear hcz139_5
               try clear hcz139_6
               try clear hcz139_7
               try clear hcz139_8
               try clear hcz139_9
               try clear hcz144_0
               try clear hcz144_1
               try clear hcz144_2
               try clear hcz144_3
               try clear hcz144_4
               try clear hcz144_5
               try clear hcz144_6
               try clear hcz144_7
               try clear hcz144_8
               try clear hcz144_9
               try clear hcz146_0
               try clear hcz146_1
               try clear hcz146_2
               try clear hcz146_3
               try clear hcz146_4
               try clear hcz146_5
               try clear hcz146_6
               try clear hcz146_7
               try clear hcz146_8
               try clear hcz146_9
               try clear hcz148_0
               try clear hcz148_1
               try clear hcz148_2
               try clear hcz148_3
               try clear hcz148_4
               try clear hcz148_5
               try clear hcz148_6
               try clear hcz148_7
               try clear hcz148_8
               try clear hcz148_9
               try clear hcz156_0
               try clear hcz156_1
               try clear hcz156_2
               try clear hcz156_3
               try clear hcz156_4
               try clear hcz156_5
               try clear hcz156_6
               try clear hcz156_7
               try clear hcz156_8
               try clear hcz156_9
               try clear hcz161_0
               try clear hcz161_1
               try clear hcz161_2
               try clear hcz161_3
               try clear hcz161_4
               try clear hcz161_5
               try clear hcz161_6
               try clear hcz161_7
               try clear hcz161_8
               try clear hcz161_9
               try clear hcz42_0
               try clear hcz42_1
               try clear hcz42_2
               try clear hcz42_3
               try clear hcz42_4
               try clear hcz42_5
               try clear hcz42_6
               try clear hcz42_7
               try clear hcz42_8
               try clear hcz42_9
               try clear hcz43_0
               try clear hcz43_1
               try clear hcz43_2
               try clear hcz43_3
               try clear hcz43_4
               try clear hcz43_5
               try clear hcz43_6
               try clear hcz43_7
               try clear hcz43_8
               try clear hcz43_9
               try clear hcz49_0
               try clear hcz49_1
               try clear hcz49_2
               try clear hcz49_3
               try clear hcz49_4
               try clear hcz49_5
               try clear hcz49_6
               try clear hcz49_7
               try clear hcz49_8
               try clear hcz49_9
               try clear hcz54_0
               try clear hcz54_1
               try clear hcz54_2
               try clear hcz54_3
               try clear hcz54_4
               try clear hcz54_5
               try clear hcz54_6
               try clear hcz54_7
               try clear hcz54_8
               try clear hcz54_9
               try clear hcz57_0
               try clear hcz57_1
               try clear hcz57_2
               try clear hcz57_3
               try clear hcz57_4
               try clear hcz57_5
               try clear hcz57_6
               try clear hcz57_7
               try clear hcz57_8
               try clear hcz57_9
               try clear hcz71_0
               try clear hcz71_1
               try clear hcz71_2
               try clear hcz71_3
               try clear hcz71_4
               try clear hcz71_5
               try clear hcz71_6
               try clear hcz71_7
               try clear hcz71_8
               try clear hcz71_9
               try clear hcz74_0
               try clear hcz74_1
               try clear hcz74_2
               try clear hcz74_3
               try clear hcz74_4
               try clear hcz74_5
               try clear hcz74_6
               try clear hcz74_7
               try clear hcz74_8
               try clear hcz74_9
               try clear hcz76_0
               try clear hcz76_1
               try clear hcz76_2
               try clear hcz76_3
               try clear hcz76_4
               try clear hcz76_5
               try clear hcz76_6
               try clear hcz76_7
               try clear hcz76_8
               try clear hcz76_9
               try clear hcz77_0
               try clear hcz77_1
               try clear hcz77_2
               try clear hcz77_3
               try clear hcz77_4
               try clear hcz77_5
               try clear hcz77_6
               try clear hcz77_7
               try clear hcz77_8
               try clear hcz77_9
               try clear hcz82_0
               try clear hcz82_1
               try clear hcz82_2
               try clear hcz82_3
               try clear hcz82_4
               try clear hcz82_5
               try clear hcz82_6
               try clear hcz82_7
               try clear hcz82_8
               try clear hcz82_9
               try clear hcz85_0
               try clear hcz85_1
               try clear hcz85_2
               try clear hcz85_3
               try clear hcz85_4
               try clear hcz85_5
               try clear hcz85_6
               try clear hcz85_7
               try clear hcz85_8
               try clear hcz85_9
               try clear hcz87_0
               try clear hcz87_1
               try clear hcz87_2
               try clear hcz87_3
               try clear hcz87_4
               try clear hcz87_5
               try clear hcz87_6
               try clear hcz87_7
               try clear hcz87_8
               try clear hcz87_9
               try clear hcz88_0
               try clear hcz88_1
               try clear hcz88_2
               try clear hcz88_3
               try clear hcz88_4
               try clear hcz88_5
               try clear hcz88_6
               try clear hcz88_7
               try clear hcz88_8
               try clear hcz88_9
               try clear hcz93_0
               try clear hcz93_1
               try clear hcz93_2
               try clear hcz93_3
               try clear hcz93_4
               try clear hcz93_5
               try clear hcz93_6
               try clear hcz93_7
               try clear hcz93_8
               try clear hcz93_9
               try clear hcz96_0
               try clear hcz96_1
               try clear hcz96_2
               try clear hcz96_3
               try clear hcz96_4
               try clear hcz96_5
               try clear hcz96_6
               try clear hcz96_7
               try clear hcz96_8
               try clear hcz96_9
               try clear hcz98_0
               try clear hcz98_1
               try clear hcz98_2
               try clear hcz98_3
               try clear hcz98_4
               try clear hcz98_5
               try clear hcz98_6
               try clear hcz98_7
               try clear hcz98_8
               try clear hcz98_9
               try clear hcz99_0
               try clear hcz99_1
               try clear hcz99_2
               try clear hcz99_3
               try clear hcz99_4
               try clear hcz99_5
               try clear hcz99_6
               try clear hcz99_7
               try clear hcz99_8
               try clear hcz99_9
               try clear hfz103_0
               try clear hfz103_1
               try clear hfz103_2
               try clear hfz103_3
               try clear hfz103_4
               try clear hfz103_5
               try clear hfz103_6
               try clear hfz103_7
               try clear hfz103_8
               try clear hfz103_9
               try clear hfz106_0
               try clear hfz106_1
               try clear hfz106_2
               try clear hfz106_3
               try clear hfz106_4
               try clear hfz106_5
               try clear hfz106_6
               try clear hfz106_7
               try clear hfz106_8
               try clear hfz106_9
               try clear hfz108_0
               try clear hfz108_1
               try clear hfz108_2
               try clear hfz108_3
               try clear hfz108_4
               try clear hfz108_5
               try clear hfz108_6
               try clear hfz108_7
               try clear hfz108_8
               try clear hfz108_9
               try clear hfz109_0
               try clear hfz109_1
               try clear hfz109_2
               try clear hfz109_3
               try clear hfz109_4
               try clear hfz109_5
               try clear hfz109_6
               try clear hfz109_7
               try clear hfz109_8
               try clear hfz109_9
               try clear hfz10_0
               try clear hfz10_1
               try clear hfz10_2
               try clear hfz10_3
               try clear hfz10_4
               try clear hfz10_5
               try clear hfz10_6
               try clear hfz10_7
               try clear hfz10_8
               try clear hfz10_9
               try clear hfz113_0
               try clear hfz113_1
               try clear hfz113_2
               try clear hfz113_3
               try clear hfz113_4
               try clear hfz113_5
               try clear hfz113_6
               try clear hfz113_7
               try clear hfz113_8
               try clear hfz113_9
               try clear hfz116_0
               try clear hfz116_1
               try clear hfz116_2
               try clear hfz116_3
               try clear hfz116_4
               try clear hfz116_5
               try clear hfz116_6
               try clear hfz116_7
               try clear hfz116_8
               try clear hfz116_9
               try clear hfz121_0
               try clear hfz121_1
               try clear hfz121_2
               try clear hfz121_3
               try clear hfz121_4
               try clear hfz121_5
               try clear hfz121_6
               try clear hfz121_7
               try clear hfz121_8
               try clear hfz121_9
               try clear hfz124_0
               try clear hfz124_1
               try clear hfz124_2
               try clear hfz124_3
               try clear hfz124_4
               try clear hfz124_5
               try clear hfz124_6
               try clear hfz124_7
               try clear hfz124_8
               try clear hfz124_9
               try clear hfz12_0
               try clear hfz12_1
               try clear hfz12_2
               try clear hfz12_3
               try clear hfz12_4
               try clear hfz12_5
               try clear hfz12_6
               try clear hfz12_7
               try clear hfz12_8
               try clear hfz12_9
               try clear hfz139_0
               try clear hfz139_1
               try clear hfz139_2
               try clear hfz139_3
               try clear hfz139_4
               try clear hfz139_5
               try clear hfz139_6
               try clear hfz139_7
               try clear hfz139_8
               try clear hfz139_9
               try clear hfz144_0
               try clear hfz144_1
               try clear hfz144_2
               try clear hfz144_3
               try clear hfz144_4
               try clear hfz144_5
               try clear hfz144_6
               try clear hfz144_7
               try clear hfz144_8
               try clear hfz144_9
               try clear hfz146_0
               try clear hfz146_1
               try clear hfz146_2
               try clear hfz146_3
               try clear hfz146_4
               try clear hfz146_5
               try clear hfz146_6
               try clear hfz146_7
               try clear hfz146_8
               try clear hfz146_9
               try clear hfz148_0
               try clear hfz148_1
               try clear hfz148_2
               try clear hfz148_3
               try clear hfz148_4
               try clear hfz148_5
               try clear hfz148_6
               try clear hfz148_7
               try clear hfz148_8
               try clear hfz148_9
               try clear hfz156_0
               try clear hfz156_1
               try clear hfz156_2
               try clear hfz156_3
               try clear hfz156_4
               try clear hfz156_5
               try clear hfz156_6
               try clear hfz156_7
               try clear hfz156_8
               try clear hfz156_9
               try clear hfz161_0
               try clear hfz161_1
               try clear hfz161_2
               try clear hfz161_3
               try clear hfz161_4
               try clear hfz161_5
               try clear hfz161_6
               try clear hfz161_7
               try clear hfz161_8
               try clear hfz161_9
               try clear hfz24_0
               try clear hfz24_1
               try clear hfz24_2
               try clear hfz24_3
               try clear hfz24_4
               try clear hfz24_5
               try clear hfz24_6
               try clear hfz24_7
               try clear hfz24_8
               try clear hfz24_9
               try clear hfz26_0
               try clear hfz26_1
               try clear hfz26_2
               try clear hfz26_3
               try clear hfz26_4
               try clear hfz26_5
               try clear hfz26_6
               try clear hfz26_7
               try clear hfz26_8
               try clear hfz26_9
               try clear hfz28_0
               try clear hfz28_1
               try clear hfz28_2
               try clear hfz28_3
               try clear hfz28_4
               try clear hfz28_5
               try clear hfz28_6
               try clear hfz28_7
               try clear hfz28_8
               try clear hfz28_9
               try clear hfz37_0
               try clear hfz37_1
               try clear hfz37_2
               try clear hfz37_3
               try clear hfz37_4
               try clear hfz37_5
               try clear hfz37_6
               try clear hfz37_7
               try clear hfz37_8
               try clear hfz37_9
               try clear hfz42_0
               try clear hfz42_1
               try clear hfz42_2
               try clear hfz42_3
               try clear hfz42_4
               try clear hfz42_5
               try clear hfz42_6
               try clear hfz42_7
               try clear hfz42_8
               try clear hfz42_9
               try clear hfz43_0
               try clear hfz43_1
               try clear hfz43_2
               try clear hfz43_3
               try clear hfz43_4
               try clear hfz43_5
               try clear hfz43_6
               try clear hfz43_7
               try clear hfz43_8
               try clear hfz43_9
               try clear hfz49_0
               try clear hfz49_1
               try clear hfz49_2
               try clear hfz49_3
               try clear hfz49_4
               try clear hfz49_5
               try clear hfz49_6
               try clear hfz49_7
               try clear hfz49_8
               try clear hfz49_9
               try clear hfz54_0
               try clear hfz54_1
               try clear hfz54_2
               try clear hfz54_3
               try clear hfz54_4
               try clear hfz54_5
               try clear hfz54_6
               try clear hfz54_7
               try clear hfz54_8
               try clear hfz54_9
               try clear hfz57_0
               try clear hfz57_1
               try clear hfz57_2
               try clear hfz57_3
               try clear hfz57_4
               try clear hfz57_5
               try clear hfz57_6
               try clear hfz57_7
               try clear hfz57_8
               try clear hfz57_9
               try clear hfz71_0
               try clear hfz71_1
               try clear hfz71_2
               try clear hfz71_3
               try clear hfz71_4
               try clear hfz71_5
               try clear hfz71_6
               try clear hfz71_7
               try clear hfz71_8
               try clear hfz71_9
               try clear hfz74_0
               try clear hfz74_1
               try clear hfz74_2
               try clear hfz74_3
               try clear hfz74_4
               try clear hfz74_5
               try clear hfz74_6
               try clear hfz74_7
               try clear hfz74_8
               try clear hfz74_9
               try clear hfz76_0
               try clear hfz76_1
               try clear hfz76_2
               try clear hfz76_3
               try clear hfz76_4
               try clear hfz76_5
               try clear hfz76_6
               try clear hfz76_7
               try clear hfz76_8
               try clear hfz76_9
               try clear hfz77_0
               try clear hfz77_1
               try clear hfz77_2
               try clear hfz77_3
               try clear hfz77_4
               try clear hfz77_5
               try clear hfz77_6
               try clear hfz77_7
               try clear hfz77_8
               try clear hfz77_9
               try clear hfz82_0
               try clear hfz82_1
               try clear hfz82_2
               try clear hfz82_3
               try clear hfz82_4
               try clear hfz82_5
               try clear hfz82_6
               try clear hfz82_7
               try clear hfz82_8
               try clear hfz82_9
               try clear hfz85_0
               try clear hfz85_1
               try clear hfz85_2
               try clear hfz85_3
               try clear hfz85_4
               try clear hfz85_5
               try clear hfz85_6
               try clear hfz85_7
               try clear hfz85_8
               try clear hfz85_9
               try clear hfz87_0
               try clear hfz87_1
               try clear hfz87_2
               try clear hfz87_3
               try clear hfz87_4
               try clear hfz87_5
               try clear hfz87_6
               try clear hfz87_7
               try clear hfz87_8
               try clear hfz87_9
               try clear hfz88_0
               try clear hfz88_1
               try clear hfz88_2
               try clear hfz88_3
               try clear hfz88_4
               try clear hfz88_5
               try clear hfz88_6
               try clear hfz88_7
               try clear hfz88_8
               try clear hfz88_9
               try clear hfz93_0
               try clear hfz93_1
               try clear hfz93_2
               try clear hfz93_3
               try clear hfz93_4
               try clear hfz93_5
               try clear hfz93_6
               try clear hfz93_7
               try clear hfz93_8
               try clear hfz93_9
               try clear hfz96_0
               try clear hfz96_1
               try clear hfz96_2
               try clear hfz96_3
               try clear hfz96_4
               try clear hfz96_5
               try clear hfz96_6
               try clear hfz96_7
               try clear hfz96_8
               try clear hfz96_9
               try clear hfz98_0
               try clear hfz98_1
               try clear hfz98_2
               try clear hfz98_3
               try clear hfz98_4
               try clear hfz98_5
               try clear hfz98_6
               try clear hfz98_7
               try clear hfz98_8
               try clear hfz98_9
               try clear hfz99_0
               try clear hfz99_1
               try clear hfz99_2
               try clear hfz99_3
               try clear hfz99_4
               try clear hfz99_5
               try clear hfz99_6
               try clear hfz99_7
               try clear hfz99_8
               try clear hfz99_9
               try clear p2
               try clear p6
               obtain ⟨kq, x28_129, x29_129, rfl, rfl, HA, HJ129, HB⟩ := hcut
               cases kq with
               | zero => exact absurd HA.out (by simp [laws_FnLives.j5])
               | succ kj129 =>
                have H := HA.out
                clear HA
                simp only [laws_FnLives.j5] at H
                by_cases c163 : (t388 == t390) = true
                ·rw [if_pos c163] at H
                 have c163b0 : (t388 == t390) = true := c163
                 (try (have c163b1 : decide (t388 = t390) = true := by simpa using c163))
                 (try (have c163b2 : (t388 == t390) = true := by simpa using c163))
                 clear c163
                 by_cases c164 : t387.toList = t389.toList
                 ·rw [if_pos c164] at H
                  have c164b0 : (t387.toList == t389.toList) = true := beq_iff_eq.mpr c164
                  have c164b1 : (t387.toList != t389.toList) = false := bne_eq_false_iff_eq.mpr c164
                  clear c164
                  by_cases c165 : t388 = true
                  ·subst c165
                   have H1 : (if (x29_129 == t392) = true then (if x29_129 = true then (some (x28_129 == (t387.toList == t391.toList))) else (some true)) else (some false)) = some r := by rw [if_pos rfl] at H; exact H
                   clear H
                   have H := H1
                   clear H1
                   by_cases c166 : (x29_129 == t392) = true
                   ·rw [if_pos c166] at H
                    have c166b0 : (x29_129 == t392) = true := c166
                    (try (have c166b1 : decide (x29_129 = t392) = true := by simpa using c166))
                    (try (have c166b2 : (x29_129 == t392) = true := by simpa using c166))
                    clear c166
                    by_cases c167 : x29_129 = true
                    ·subst c167
                     have H1 : (some (x28_129 == (t387.toList == t391.toList))) = some r := by rw [if_pos rfl] at H; exact H
                     clear H
                     have H := H1
                     clear H1
                     first
                     | (rw [hrb] at H; cases H; done)
                     | obtain rfl := Option.some.inj H
                       as_aux_lemma =>
                        go_wp2
                        go_ret
                        exact ⟨by first | rfl | (simp [errW_none, errW_some] <;> rfl) | (simp [*, errW_none, errW_some] <;> rfl), by repeat (first | (with_reducible first | exact HB.out | apply below_alloc | apply pw_below_drewN | apply below_drew1 | refine below_set ?_ GE320.out | refine below_set ?_ GE337.out | refine below_set ?_ GE349.out | refine below_set ?_ GE361.out | refine below_set ?_ GE385.out | refine below_set ?_ GE386.out) | exact HB.out | (with_reducible exact Below.refl _ _))⟩
                    ·replace c167 := Bool.eq_false_iff.mpr c167
                     subst c167
                     have H1 : (some true) = some r := by rw [if_neg (show ¬ (false = true) by decide)] at H; exact H
                     clear H
                     have H := H1
                     clear H1
                     first
                     | (rw [hrb] at H; cases H; done)
                     | obtain rfl := Option.some.inj H
                       as_aux_lemma =>
                        go_wp2
                        go_ret
                        exact ⟨by first | rfl | (simp [errW_none, errW_some] <;> rfl) | (simp [*, errW_none, errW_some] <;> rfl), by repeat (first | (with_reducible first | exact HB.out | apply below_alloc | apply pw_below_drewN | apply below_drew1 | refine below_set ?_ GE320.out | refine below_set ?_ GE337.out | refine below_set ?_ GE349.out | refine below_set ?_ GE361.out | refine below_set ?_ GE385.out | refine below_set ?_ GE386.out) | exact HB.out | (with_reducible exact Below.refl _ _))⟩
                   ·rw [if_neg c166] at H
                    have c166b0 : (x29_129 == t392) = false := by simpa using c166
                    (try (have c166b1 : decide (x29_129 = t392) = false := by simpa using c166))
                    (try (have c166b2 : (x29_129 == t392) = false := by simpa using c166))
                    (try (have c166b3 : ¬ (x29_129 = t392) := by simpa using c166))
                    clear c166
                    first
                    | (rw [hrb] at H; cases H; done)
                    | obtain rfl := Option.some.inj H
                      as_aux_lemma =>
                       go_wp2
                       go_ret
                       exact ⟨by first | rfl | (simp [errW_none, errW_some] <;> rfl) | (simp [*, errW_none, errW_some] <;> rfl), by repeat (first | (with_reducible first | exact HB.out | apply below_alloc | apply pw_below_drewN | apply below_drew1 | refine below_set ?_ GE320.out | refine below_set ?_ GE337.out | refine below_set ?_ GE349.out | refine below_set ?_ GE361.out | refine below_set ?_ GE385.out | refine below_set ?_ GE386.out) | exact HB.out | (with_reducible exact Below.refl _ _))⟩
                  ·replace c165 := Bool.eq_false_iff.mpr c165
                   subst c165
                   have H1 : (if (x29_129 == false) = true then (if x29_129 = true then (some (x28_129 == (t387.toList == t391.toList))) else (some true)) else (some false)) = some r := by rw [if_neg (show ¬ (false = true) by decide)] at H; exact H
                   clear H
                   have H := H1
                   clear H1
                   by_cases c168 : (x29_129 == false) = true
                   ·rw [if_pos c168] at H
                    have c168b0 : (x29_129 == false) = true := c168
                    (try (have c168b1 : decide (x29_129 = false) = true := by simpa using c168))
                    (try (have c168b2 : (x29_129 == false) = true := by simpa using c168))
                    clear c168
                    by_cases c169 : x29_129 = true
                    ·subst c169
                     have H1 : (some (x28_129 == (t387.toList == t391.toList))) = some r := by rw [if_pos rfl] at H; exact H
                     clear H
                     have H := H1
                     clear H1
                     first
                     | (rw [hrb] at H; cases H; done)
                     | obtain rfl := Option.some.inj H
                       as_aux_lemma =>
                        go_wp2
                        go_ret
                        exact ⟨by first | rfl | (simp [errW_none, errW_some] <;> rfl) | (simp [*, errW_none, errW_some] <;> rfl), by repeat (first | (with_reducible first | exact HB.out | apply below_alloc | apply pw_below_drewN | apply below_drew1 | refine below_set ?_ GE320.out | refine below_set ?_ GE337.out | refine below_set ?_ GE349.out | refine below_set ?_ GE361.out | refine below_set ?_ GE385.out | refine below_set ?_ GE386.out) | exact HB.out | (with_reducible exact Below.refl _ _))⟩
                    ·replace c169 := Bool.eq_false_iff.mpr c169
                     subst c169
                     have H1 : (some true) = some r := by rw [if_neg (show ¬ (false = true) by decide)] at H; exact H
                     clear H
                     have H := H1
                     clear H1
                     first
                     | (rw [hrb] at H; cases H; done)
                     | obtain rfl := Option.some.inj H
                       as_aux_lemma =>
                        go_wp2
                        go_ret
                        exact ⟨by first | rfl | (simp [errW_none, errW_some] <;> rfl) | (simp [*, errW_none, errW_some] <;> rfl), by repeat (first | (with_reducible first | exact HB.out | apply below_alloc | apply pw_below_drewN | apply below_drew1 | refine below_set ?_ GE320.out | refine below_set ?_ GE337.out | refine below_set ?_ GE349.out | refine below_set ?_ GE361.out | refine below_set ?_ GE385.out | refine below_set ?_ GE386.out) | exact HB.out | (with_reducible exact Below.refl _ _))⟩
                   ·rw [if_neg c168] at H
                    have c168b0 : (x29_129 == false) = false := by simpa using c168
                    (try (have c168b1 : decide (x29_129 = false) = false := by simpa using c168))
                    (try (have c168b2 : (x29_129 == false) = false := by simpa using c168))
                    (try (have c168b3 : ¬ (x29_129 = false) := by simpa using c168))
                    clear c168
                    first
                    | (rw [hrb] at H; cases H; done)
                    | obtain rfl := Option.some.inj H
                      as_aux_lemma =>
                       go_wp2
                       go_ret
                       exact ⟨by first | rfl | (simp [errW_none, errW_some] <;> rfl) | (simp [*, errW_none, errW_some] <;> rfl), by repeat (first | (with_reducible first | exact HB.out | apply below_alloc | apply pw_below_drewN | apply below_drew1 | refine below_set ?_ GE320.out | refine below_set ?_ GE337.out | refine below_set ?_ GE349.out | refine below_set ?_ GE361.out | refine below_set ?_ GE385.out | refine below_set ?_ GE386.out) | exact HB.out | (with_reducible exact Below.refl _ _))⟩
                 ·rw [if_neg c164] at H
                  have c164b0 : (t387.toList == t389.toList) = false := beq_eq_false_iff_ne.mpr c164
                  have c164b1 : (t387.toList != t389.toList) = true := bne_iff_ne.mpr c164
                  first
                  | (rw [hrb] at H; cases H; done)
                  | obtain rfl := Option.some.inj H
                    as_aux_lemma =>
                     go_wp2
                     go_ret
                     exact ⟨by first | rfl | (simp [errW_none, errW_some] <;> rfl) | (simp [*, errW_none, errW_some] <;> rfl), by repeat (first | (with_reducible first | exact HB.out | apply below_alloc | apply pw_below_drewN | apply below_drew1 | refine below_set ?_ GE320.out | refine below_set ?_ GE337.out | refine below_set ?_ GE349.out | refine below_set ?_ GE361.out | refine below_set ?_ GE385.out | refine below_set ?_ GE386.out) | exact HB.out | (with_reducible exact Below.refl _ _))⟩
                ·rw [if_neg c163] at H
                 have c163b0 : (t388 == t390) = false := by simpa using c163
                 (try (have c163b1 : decide (t388 = t390) = false := by simpa using c163))
                 (try (have c163b2 : (t388 == t390) = false := by simpa using c163))
                 (try (have c163b3 : ¬ (t388 = t390) := by simpa using c163))
                 clear c163
                 first
                 | (rw [hrb] at H; cases H; done)
                 | obtain rfl := Option.some.inj H
                   as_aux_lemma =>
                    go_wp2
                    go_ret
                    exact ⟨by first | rfl | (simp [errW_none, errW_some] <;> rfl) | (simp [*, errW_none, errW_some] <;> rfl), by repeat (first | (with_reducible first | exact HB.out | apply below_alloc | apply pw_below_drewN | apply below_drew1 | refine below_set ?_ GE320.out | refine below_set ?_ GE337.out | refine below_set ?_ GE349.out | refine below_set ?_ GE361.out | refine below_set ?_ GE385.out | refine below_set ?_ GE386.out) | exact HB.out | (with_reducible exact Below.refl _ _))⟩

def laws_FnLives.Pure : Prop := ∀ (l0 : List Int) (l1 : List Int), l0.length ≤ maxLen → l0.length * 1 ≤ 140737488351232 → (∀ x ∈ l0, (Lit.int .u8 x).wf = true) → l1.length ≤ maxLen → l1.length * 1 ≤ 140737488351232 → (∀ x ∈ l1, (Lit.int .u8 x).wf = true) → ∃ k, laws_FnLives.f k l0 l1 = some true
end Go.Proofs.YtaffjcaohbkmoaaDoor.QFnLives
