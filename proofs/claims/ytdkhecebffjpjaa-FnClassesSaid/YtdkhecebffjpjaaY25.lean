import Derived.Test.YtdkhecebffjpjaaU
import Derived.Test.YtdkhecebffjpjaaY0
import Derived.Test.YtdkhecebffjpjaaY2
import Derived.Test.YtdkhecebffjpjaaY7
import Derived.Test.YtdkhecebffjpjaaY8
import Derived.Test.YtdkhecebffjpjaaY10
import Derived.Test.YtdkhecebffjpjaaY12
import Derived.Test.YtdkhecebffjpjaaY13
import Derived.Test.YtdkhecebffjpjaaY14
import Derived.Test.YtdkhecebffjpjaaY15
import Derived.Test.YtdkhecebffjpjaaY17
import Derived.Test.YtdkhecebffjpjaaY19
import Derived.Test.YtdkhecebffjpjaaY21
import Derived.Test.YtdkhecebffjpjaaY22
import Derived.Test.YtdkhecebffjpjaaY23
import Derived.Test.YtdkhecebffjpjaaY24
namespace Go.Proofs.Ytdkhecebffjpjaa.X
open Go.RowKit Go.Proofs.YtdkhecebffjpjaaW.PrintWords Go.Proofs.YtdkhecebffjpjaaW.PrintLast Go.Proofs.YtdkhecebffjpjaaW.PrintMore
attribute [local go_sem] max2_int min2_int max_two min_two max_three min_three max_four min_four
set_option linter.unusedVariables false
set_option linter.unusedSimpArgs false
/-! ### laws_FnClasses: function 3 -/
mutual
def laws_FnClasses.j0 : Nat → List Int → List (S40) → List Int → Int → Bool → Bool → Bool → Int → Int → Bool → Bool → Option (Bool)
 | 0, _, _, _, _, _, _, _, _, _, _, _ => none
 | k + 1, x0, x3, x4, x5, x8, x12, x16, x17, x21, x24, x171 => if x171 = true then (some false) else (if x17 = 0 then (if x8 = true then (if (x12 != x16) = true then (none) else (if (x16 != (x21 == 4)) = true then (none) else (if x24 = true then (laws_FnClasses.j1 k x0 x3 x4 x5 (!x12)) else (laws_FnClasses.j1 k x0 x3 x4 x5 false)))) else (if (x12 != false) = true then (none) else (if (x16 != (x21 == 4)) = true then (none) else (if x24 = true then (laws_FnClasses.j1 k x0 x3 x4 x5 (!x12)) else (laws_FnClasses.j1 k x0 x3 x4 x5 false))))) else (laws_FnClasses.j1 k x0 x3 x4 x5 false))
def laws_FnClasses.j1 : Nat → List Int → List (S40) → List Int → Int → Bool → Option (Bool)
 | 0, _, _, _, _, _ => none
 | k + 1, x0, x3, x4, x5, x194 => if x194 = true then (some false) else (if x5 = 0 then ((impl_ClassesOfTurns.f k x4 (x3.length : Int)).bind fun bt614 => (if bt614.2 = 0 then ((laws_classes5.f k bt614.1 x3).bind fun t618 => (laws_FnClasses.j2 k x0 x3 x4 (!t618))) else (none))) else (laws_FnClasses.j5 k x0))
def laws_FnClasses.j5 : Nat → List Int → Option (Bool)
 | 0, _ => none
 | k + 1, x0 => (spec_DrawClassesOfTurns.f k x0).bind fun bt625 => ((impl_ClassesOfTurns.f k bt625.1 bt625.2).bind fun bt629 => ((spec_ClassesOfTurns.f k bt625.1 bt625.2).bind fun bt633 => (if bt629.2 = bt633.2 then ((laws_classes5.f k bt629.1 bt633.1).bind fun t637 => (laws_FnClasses.j6 k bt629.1 bt629.2 (!t637))) else (none))))
def laws_FnClasses.j6 : Nat → List (S40) → Int → Bool → Option (Bool)
 | 0, _, _, _ => none
 | k + 1, x36, x37, x267 => if x267 = true then (some false) else (if x37 = 0 then ((impl_AreApart.f k x36).bind fun bt638 => (if bt638.2 = 0 then (some bt638.1) else (some false))) else (some true))
def laws_FnClasses.j2 : Nat → List Int → List (S40) → List Int → Bool → Option (Bool)
 | 0, _, _, _, _ => none
 | k + 1, x0, x3, x4, x211 => if x211 = true then (some false) else (laws_FnClasses.l0 k x0 x3 x4 (x3.length : Int) 0)
def laws_FnClasses.l0 : Nat → List Int → List (S40) → List Int → Int → Int → Option (Bool)
 | 0, _, _, _, _, _ => none
 | k + 1, x0, x3, x4, x213, x214 => if x214 < x213 then ((impl_WaitsOf.f k x4 x214).bind fun bt619 => (if bt619.2 = 0 then (laws_FnClasses.l1 k x0 x3 x4 x214 bt619.1 x213 x214 (bt619.1.length : Int) 0) else (some false))) else (laws_FnClasses.j5 k x0)
def laws_FnClasses.l1 : Nat → List Int → List (S40) → List Int → Int → List Int → Int → Int → Int → Int → Option (Bool)
 | 0, _, _, _, _, _, _, _, _, _ => none
 | k + 1, x0, x3, x4, x30, x31, x213, x214, x226, x227 => if x227 < x226 then (if 0 ≤ x227 then (if x227 < (x31.length : Int) then (if 0 ≤ x30 then (if x30 < (x3.length : Int) then (if (rd x31 x227) = ((rd_T40 x3 x30).f1) then (laws_FnClasses.l1 k x0 x3 x4 x30 x31 x213 x214 x226 (wrap64 (x227 + 1))) else (some false)) else (none)) else (none)) else (none)) else (none)) else (laws_FnClasses.l0 k x0 x3 x4 x213 (wrap64 (x214 + 1)))
end
def laws_FnClasses.f (k : Nat) (l0 : List Int) : Option (Bool) := (laws_big.f l0).bind fun t579 => (if t579 = true then (some true) else ((spec_DrawTurnsOfClasses.f k l0).bind fun t580 => ((impl_TurnsOfClasses.f k t580).bind fun bt583 => ((spec_TurnsOfClasses.f k t580).bind fun bt587 => ((impl_AreApart.f k t580).bind fun bt591 => ((spec_AreApart.f k t580).bind fun bt593 => ((impl_AreExact.f k t580).bind fun bt595 => ((spec_AreExact.f k t580).bind fun bt597 => ((impl_DoCover.f k t580).bind fun bt599 => ((spec_DoCover.f k t580).bind fun bt601 => ((impl_FirstUncovered.f k t580).bind fun bt603 => ((spec_FirstUncovered.f k t580).bind fun bt605 => ((impl_AreNatural.f k t580).bind fun bt607 => ((spec_AreNatural.f k t580).bind fun bt609 => (if bt583.2 = bt587.2 then ((laws_likeInts.f k bt583.1 bt587.1).bind fun t611 => (if t611 = true then (if bt591.2 = bt593.2 then (if (bt591.1 != bt593.1) = true then (none) else (if bt595.2 = bt597.2 then (if (bt595.1 != bt597.1) = true then (none) else (if bt599.2 = bt601.2 then (if (bt599.1 != bt601.1) = true then (none) else (if bt603.2 = bt605.2 then (if bt603.1 = bt605.1 then (if bt607.2 = bt609.2 then (if (bt607.1 != bt609.1) = true then (none) else ((impl_AreClasses.f t580).bind fun t612 => ((spec_AreClasses.f k t580).bind fun t613 => (laws_FnClasses.j0 k l0 t580 bt583.1 bt583.2 bt591.1 bt595.1 bt599.1 bt599.2 bt603.2 bt607.1 (t612 != t613))))) else (none)) else (none)) else (none))) else (none))) else (none))) else (none)) else (none))) else (none))))))))))))))))
theorem laws_FnClasses.mono_l : ∀ k, (∀ y0 y1 y2 y3 y4 y5 y6 y7 y8 y9 y10, LeO (laws_FnClasses.j0 k y0 y1 y2 y3 y4 y5 y6 y7 y8 y9 y10) (laws_FnClasses.j0 (k + 1) y0 y1 y2 y3 y4 y5 y6 y7 y8 y9 y10)) ∧ (∀ y0 y1 y2 y3 y4, LeO (laws_FnClasses.j1 k y0 y1 y2 y3 y4) (laws_FnClasses.j1 (k + 1) y0 y1 y2 y3 y4)) ∧ (∀ y0, LeO (laws_FnClasses.j5 k y0) (laws_FnClasses.j5 (k + 1) y0)) ∧ (∀ y0 y1 y2, LeO (laws_FnClasses.j6 k y0 y1 y2) (laws_FnClasses.j6 (k + 1) y0 y1 y2)) ∧ (∀ y0 y1 y2 y3, LeO (laws_FnClasses.j2 k y0 y1 y2 y3) (laws_FnClasses.j2 (k + 1) y0 y1 y2 y3)) ∧ (∀ y0 y1 y2 y3 y4, LeO (laws_FnClasses.l0 k y0 y1 y2 y3 y4) (laws_FnClasses.l0 (k + 1) y0 y1 y2 y3 y4)) ∧ (∀ y0 y1 y2 y3 y4 y5 y6 y7 y8, LeO (laws_FnClasses.l1 k y0 y1 y2 y3 y4 y5 y6 y7 y8) (laws_FnClasses.l1 (k + 1) y0 y1 y2 y3 y4 y5 y6 y7 y8))
 | 0 => ⟨fun _ _ _ _ _ _ _ _ _ _ _ r h => by simp [laws_FnClasses.j0] at h, fun _ _ _ _ _ r h => by simp [laws_FnClasses.j1] at h, fun _ r h => by simp [laws_FnClasses.j5] at h, fun _ _ _ r h => by simp [laws_FnClasses.j6] at h, fun _ _ _ _ r h => by simp [laws_FnClasses.j2] at h, fun _ _ _ _ _ r h => by simp [laws_FnClasses.l0] at h, fun _ _ _ _ _ _ _ _ _ r h => by simp [laws_FnClasses.l1] at h⟩
 | k + 1 => by
  obtain ⟨ih0, ih1, ih2, ih3, ih4, ih5, ih6⟩ := laws_FnClasses.mono_l k
  refine ⟨?_, ?_, ?_, ?_, ?_, ?_, ?_⟩
  ·intro y0 y1 y2 y3 y4 y5 y6 y7 y8 y9 y10
   unfold laws_FnClasses.j0
   repeat' first
   | with_reducible first | exact ih0 _ _ _ _ _ _ _ _ _ _ _ | exact ih1 _ _ _ _ _ | exact ih2 _ | exact ih3 _ _ _ | exact ih4 _ _ _ _ | exact ih5 _ _ _ _ _ | exact ih6 _ _ _ _ _ _ _ _ _ | exact impl_AreApart.mono _ _ | exact impl_AreExact.mono _ _ | exact impl_AreNatural.mono _ _ | exact impl_ClassesOfTurns.mono _ _ _ | exact impl_DoCover.mono _ _ | exact impl_FirstUncovered.mono _ _ | exact impl_TurnsOfClasses.mono _ _ | exact impl_WaitsOf.mono _ _ _ | exact laws_classes5.mono _ _ _ | exact laws_likeInts.mono _ _ _ | exact spec_AreApart.mono _ _ | exact spec_AreClasses.mono _ _ | exact spec_AreExact.mono _ _ | exact spec_AreNatural.mono _ _ | exact spec_ClassesOfTurns.mono _ _ _ | exact spec_DoCover.mono _ _ | exact spec_DrawClassesOfTurns.mono _ _ | exact spec_DrawTurnsOfClasses.mono _ _ | exact spec_FirstUncovered.mono _ _ | exact spec_TurnsOfClasses.mono _ _ | exact LeO.refl _ | exact LeO.none _ | refine LeO.ite ?_ ?_ | refine LeO.bind ?_ (fun _ => ?_)
   | exact ih0 _ _ _ _ _ _ _ _ _ _ _
   | exact ih1 _ _ _ _ _
   | exact ih2 _
   | exact ih3 _ _ _
   | exact ih4 _ _ _ _
   | exact ih5 _ _ _ _ _
   | exact ih6 _ _ _ _ _ _ _ _ _
   | exact impl_AreApart.mono _ _
   | exact impl_AreExact.mono _ _
   | exact impl_AreNatural.mono _ _
   | exact impl_ClassesOfTurns.mono _ _ _
   | exact impl_DoCover.mono _ _
   | exact impl_FirstUncovered.mono _ _
   | exact impl_TurnsOfClasses.mono _ _
   | exact impl_WaitsOf.mono _ _ _
   | exact laws_classes5.mono _ _ _
   | exact laws_likeInts.mono _ _ _
   | exact spec_AreApart.mono _ _
   | exact spec_AreClasses.mono _ _
   | exact spec_AreExact.mono _ _
   | exact spec_AreNatural.mono _ _
   | exact spec_ClassesOfTurns.mono _ _ _
   | exact spec_DoCover.mono _ _
   | exact spec_DrawClassesOfTurns.mono _ _
   | exact spec_DrawTurnsOfClasses.mono _ _
   | exact spec_FirstUncovered.mono _ _
   | exact spec_TurnsOfClasses.mono _ _
   | exact LeO.none _
   | refine LeO.ite ?_ ?_
   | refine LeO.bind ?_ (fun _ => ?_)
  ·intro y0 y1 y2 y3 y4
   unfold laws_FnClasses.j1
   repeat' first
   | with_reducible first | exact ih0 _ _ _ _ _ _ _ _ _ _ _ | exact ih1 _ _ _ _ _ | exact ih2 _ | exact ih3 _ _ _ | exact ih4 _ _ _ _ | exact ih5 _ _ _ _ _ | exact ih6 _ _ _ _ _ _ _ _ _ | exact impl_AreApart.mono _ _ | exact impl_AreExact.mono _ _ | exact impl_AreNatural.mono _ _ | exact impl_ClassesOfTurns.mono _ _ _ | exact impl_DoCover.mono _ _ | exact impl_FirstUncovered.mono _ _ | exact impl_TurnsOfClasses.mono _ _ | exact impl_WaitsOf.mono _ _ _ | exact laws_classes5.mono _ _ _ | exact laws_likeInts.mono _ _ _ | exact spec_AreApart.mono _ _ | exact spec_AreClasses.mono _ _ | exact spec_AreExact.mono _ _ | exact spec_AreNatural.mono _ _ | exact spec_ClassesOfTurns.mono _ _ _ | exact spec_DoCover.mono _ _ | exact spec_DrawClassesOfTurns.mono _ _ | exact spec_DrawTurnsOfClasses.mono _ _ | exact spec_FirstUncovered.mono _ _ | exact spec_TurnsOfClasses.mono _ _ | exact LeO.refl _ | exact LeO.none _ | refine LeO.ite ?_ ?_ | refine LeO.bind ?_ (fun _ => ?_)
   | exact ih0 _ _ _ _ _ _ _ _ _ _ _
   | exact ih1 _ _ _ _ _
   | exact ih2 _
   | exact ih3 _ _ _
   | exact ih4 _ _ _ _
   | exact ih5 _ _ _ _ _
   | exact ih6 _ _ _ _ _ _ _ _ _
   | exact impl_AreApart.mono _ _
   | exact impl_AreExact.mono _ _
   | exact impl_AreNatural.mono _ _
   | exact impl_ClassesOfTurns.mono _ _ _
   | exact impl_DoCover.mono _ _
   | exact impl_FirstUncovered.mono _ _
   | exact impl_TurnsOfClasses.mono _ _
   | exact impl_WaitsOf.mono _ _ _
   | exact laws_classes5.mono _ _ _
   | exact laws_likeInts.mono _ _ _
   | exact spec_AreApart.mono _ _
   | exact spec_AreClasses.mono _ _
   | exact spec_AreExact.mono _ _
   | exact spec_AreNatural.mono _ _
   | exact spec_ClassesOfTurns.mono _ _ _
   | exact spec_DoCover.mono _ _
   | exact spec_DrawClassesOfTurns.mono _ _
   | exact spec_DrawTurnsOfClasses.mono _ _
   | exact spec_FirstUncovered.mono _ _
   | exact spec_TurnsOfClasses.mono _ _
   | exact LeO.none _
   | refine LeO.ite ?_ ?_
   | refine LeO.bind ?_ (fun _ => ?_)
  ·intro y0
   unfold laws_FnClasses.j5
   repeat' first
   | with_reducible first | exact ih0 _ _ _ _ _ _ _ _ _ _ _ | exact ih1 _ _ _ _ _ | exact ih2 _ | exact ih3 _ _ _ | exact ih4 _ _ _ _ | exact ih5 _ _ _ _ _ | exact ih6 _ _ _ _ _ _ _ _ _ | exact impl_AreApart.mono _ _ | exact impl_AreExact.mono _ _ | exact impl_AreNatural.mono _ _ | exact impl_ClassesOfTurns.mono _ _ _ | exact impl_DoCover.mono _ _ | exact impl_FirstUncovered.mono _ _ | exact impl_TurnsOfClasses.mono _ _ | exact impl_WaitsOf.mono _ _ _ | exact laws_classes5.mono _ _ _ | exact laws_likeInts.mono _ _ _ | exact spec_AreApart.mono _ _ | exact spec_AreClasses.mono _ _ | exact spec_AreExact.mono _ _ | exact spec_AreNatural.mono _ _ | exact spec_ClassesOfTurns.mono _ _ _ | exact spec_DoCover.mono _ _ | exact spec_DrawClassesOfTurns.mono _ _ | exact spec_DrawTurnsOfClasses.mono _ _ | exact spec_FirstUncovered.mono _ _ | exact spec_TurnsOfClasses.mono _ _ | exact LeO.refl _ | exact LeO.none _ | refine LeO.ite ?_ ?_ | refine LeO.bind ?_ (fun _ => ?_)
   | exact ih0 _ _ _ _ _ _ _ _ _ _ _
   | exact ih1 _ _ _ _ _
   | exact ih2 _
   | exact ih3 _ _ _
   | exact ih4 _ _ _ _
   | exact ih5 _ _ _ _ _
   | exact ih6 _ _ _ _ _ _ _ _ _
   | exact impl_AreApart.mono _ _
   | exact impl_AreExact.mono _ _
   | exact impl_AreNatural.mono _ _
   | exact impl_ClassesOfTurns.mono _ _ _
   | exact impl_DoCover.mono _ _
   | exact impl_FirstUncovered.mono _ _
   | exact impl_TurnsOfClasses.mono _ _
   | exact impl_WaitsOf.mono _ _ _
   | exact laws_classes5.mono _ _ _
   | exact laws_likeInts.mono _ _ _
   | exact spec_AreApart.mono _ _
   | exact spec_AreClasses.mono _ _
   | exact spec_AreExact.mono _ _
   | exact spec_AreNatural.mono _ _
   | exact spec_ClassesOfTurns.mono _ _ _
   | exact spec_DoCover.mono _ _
   | exact spec_DrawClassesOfTurns.mono _ _
   | exact spec_DrawTurnsOfClasses.mono _ _
   | exact spec_FirstUncovered.mono _ _
   | exact spec_TurnsOfClasses.mono _ _
   | exact LeO.none _
   | refine LeO.ite ?_ ?_
   | refine LeO.bind ?_ (fun _ => ?_)
  ·intro y0 y1 y2
   unfold laws_FnClasses.j6
   repeat' first
   | with_reducible first | exact ih0 _ _ _ _ _ _ _ _ _ _ _ | exact ih1 _ _ _ _ _ | exact ih2 _ | exact ih3 _ _ _ | exact ih4 _ _ _ _ | exact ih5 _ _ _ _ _ | exact ih6 _ _ _ _ _ _ _ _ _ | exact impl_AreApart.mono _ _ | exact impl_AreExact.mono _ _ | exact impl_AreNatural.mono _ _ | exact impl_ClassesOfTurns.mono _ _ _ | exact impl_DoCover.mono _ _ | exact impl_FirstUncovered.mono _ _ | exact impl_TurnsOfClasses.mono _ _ | exact impl_WaitsOf.mono _ _ _ | exact laws_classes5.mono _ _ _ | exact laws_likeInts.mono _ _ _ | exact spec_AreApart.mono _ _ | exact spec_AreClasses.mono _ _ | exact spec_AreExact.mono _ _ | exact spec_AreNatural.mono _ _ | exact spec_ClassesOfTurns.mono _ _ _ | exact spec_DoCover.mono _ _ | exact spec_DrawClassesOfTurns.mono _ _ | exact spec_DrawTurnsOfClasses.mono _ _ | exact spec_FirstUncovered.mono _ _ | exact spec_TurnsOfClasses.mono _ _ | exact LeO.refl _ | exact LeO.none _ | refine LeO.ite ?_ ?_ | refine LeO.bind ?_ (fun _ => ?_)
   | exact ih0 _ _ _ _ _ _ _ _ _ _ _
   | exact ih1 _ _ _ _ _
   | exact ih2 _
   | exact ih3 _ _ _
   | exact ih4 _ _ _ _
   | exact ih5 _ _ _ _ _
   | exact ih6 _ _ _ _ _ _ _ _ _
   | exact impl_AreApart.mono _ _
   | exact impl_AreExact.mono _ _
   | exact impl_AreNatural.mono _ _
   | exact impl_ClassesOfTurns.mono _ _ _
   | exact impl_DoCover.mono _ _
   | exact impl_FirstUncovered.mono _ _
   | exact impl_TurnsOfClasses.mono _ _
   | exact impl_WaitsOf.mono _ _ _
   | exact laws_classes5.mono _ _ _
   | exact laws_likeInts.mono _ _ _
   | exact spec_AreApart.mono _ _
   | exact spec_AreClasses.mono _ _
   | exact spec_AreExact.mono _ _
   | exact spec_AreNatural.mono _ _
   | exact spec_ClassesOfTurns.mono _ _ _
   | exact spec_DoCover.mono _ _
   | exact spec_DrawClassesOfTurns.mono _ _
   | exact spec_DrawTurnsOfClasses.mono _ _
   | exact spec_FirstUncovered.mono _ _
   | exact spec_TurnsOfClasses.mono _ _
   | exact LeO.none _
   | refine LeO.ite ?_ ?_
   | refine LeO.bind ?_ (fun _ => ?_)
  ·intro y0 y1 y2 y3
   unfold laws_FnClasses.j2
   repeat' first
   | with_reducible first | exact ih0 _ _ _ _ _ _ _ _ _ _ _ | exact ih1 _ _ _ _ _ | exact ih2 _ | exact ih3 _ _ _ | exact ih4 _ _ _ _ | exact ih5 _ _ _ _ _ | exact ih6 _ _ _ _ _ _ _ _ _ | exact impl_AreApart.mono _ _ | exact impl_AreExact.mono _ _ | exact impl_AreNatural.mono _ _ | exact impl_ClassesOfTurns.mono _ _ _ | exact impl_DoCover.mono _ _ | exact impl_FirstUncovered.mono _ _ | exact impl_TurnsOfClasses.mono _ _ | exact impl_WaitsOf.mono _ _ _ | exact laws_classes5.mono _ _ _ | exact laws_likeInts.mono _ _ _ | exact spec_AreApart.mono _ _ | exact spec_AreClasses.mono _ _ | exact spec_AreExact.mono _ _ | exact spec_AreNatural.mono _ _ | exact spec_ClassesOfTurns.mono _ _ _ | exact spec_DoCover.mono _ _ | exact spec_DrawClassesOfTurns.mono _ _ | exact spec_DrawTurnsOfClasses.mono _ _ | exact spec_FirstUncovered.mono _ _ | exact spec_TurnsOfClasses.mono _ _ | exact LeO.refl _ | exact LeO.none _ | refine LeO.ite ?_ ?_ | refine LeO.bind ?_ (fun _ => ?_)
   | exact ih0 _ _ _ _ _ _ _ _ _ _ _
   | exact ih1 _ _ _ _ _
   | exact ih2 _
   | exact ih3 _ _ _
   | exact ih4 _ _ _ _
   | exact ih5 _ _ _ _ _
   | exact ih6 _ _ _ _ _ _ _ _ _
   | exact impl_AreApart.mono _ _
   | exact impl_AreExact.mono _ _
   | exact impl_AreNatural.mono _ _
   | exact impl_ClassesOfTurns.mono _ _ _
   | exact impl_DoCover.mono _ _
   | exact impl_FirstUncovered.mono _ _
   | exact impl_TurnsOfClasses.mono _ _
   | exact impl_WaitsOf.mono _ _ _
   | exact laws_classes5.mono _ _ _
   | exact laws_likeInts.mono _ _ _
   | exact spec_AreApart.mono _ _
   | exact spec_AreClasses.mono _ _
   | exact spec_AreExact.mono _ _
   | exact spec_AreNatural.mono _ _
   | exact spec_ClassesOfTurns.mono _ _ _
   | exact spec_DoCover.mono _ _
   | exact spec_DrawClassesOfTurns.mono _ _
   | exact spec_DrawTurnsOfClasses.mono _ _
   | exact spec_FirstUncovered.mono _ _
   | exact spec_TurnsOfClasses.mono _ _
   | exact LeO.none _
   | refine LeO.ite ?_ ?_
   | refine LeO.bind ?_ (fun _ => ?_)
  ·intro y0 y1 y2 y3 y4
   unfold laws_FnClasses.l0
   repeat' first
   | with_reducible first | exact ih0 _ _ _ _ _ _ _ _ _ _ _ | exact ih1 _ _ _ _ _ | exact ih2 _ | exact ih3 _ _ _ | exact ih4 _ _ _ _ | exact ih5 _ _ _ _ _ | exact ih6 _ _ _ _ _ _ _ _ _ | exact impl_AreApart.mono _ _ | exact impl_AreExact.mono _ _ | exact impl_AreNatural.mono _ _ | exact impl_ClassesOfTurns.mono _ _ _ | exact impl_DoCover.mono _ _ | exact impl_FirstUncovered.mono _ _ | exact impl_TurnsOfClasses.mono _ _ | exact impl_WaitsOf.mono _ _ _ | exact laws_classes5.mono _ _ _ | exact laws_likeInts.mono _ _ _ | exact spec_AreApart.mono _ _ | exact spec_AreClasses.mono _ _ | exact spec_AreExact.mono _ _ | exact spec_AreNatural.mono _ _ | exact spec_ClassesOfTurns.mono _ _ _ | exact spec_DoCover.mono _ _ | exact spec_DrawClassesOfTurns.mono _ _ | exact spec_DrawTurnsOfClasses.mono _ _ | exact spec_FirstUncovered.mono _ _ | exact spec_TurnsOfClasses.mono _ _ | exact LeO.refl _ | exact LeO.none _ | refine LeO.ite ?_ ?_ | refine LeO.bind ?_ (fun _ => ?_)
   | exact ih0 _ _ _ _ _ _ _ _ _ _ _
   | exact ih1 _ _ _ _ _
   | exact ih2 _
   | exact ih3 _ _ _
   | exact ih4 _ _ _ _
   | exact ih5 _ _ _ _ _
   | exact ih6 _ _ _ _ _ _ _ _ _
   | exact impl_AreApart.mono _ _
   | exact impl_AreExact.mono _ _
   | exact impl_AreNatural.mono _ _
   | exact impl_ClassesOfTurns.mono _ _ _
   | exact impl_DoCover.mono _ _
   | exact impl_FirstUncovered.mono _ _
   | exact impl_TurnsOfClasses.mono _ _
   | exact impl_WaitsOf.mono _ _ _
   | exact laws_classes5.mono _ _ _
   | exact laws_likeInts.mono _ _ _
   | exact spec_AreApart.mono _ _
   | exact spec_AreClasses.mono _ _
   | exact spec_AreExact.mono _ _
   | exact spec_AreNatural.mono _ _
   | exact spec_ClassesOfTurns.mono _ _ _
   | exact spec_DoCover.mono _ _
   | exact spec_DrawClassesOfTurns.mono _ _
   | exact spec_DrawTurnsOfClasses.mono _ _
   | exact spec_FirstUncovered.mono _ _
   | exact spec_TurnsOfClasses.mono _ _
   | exact LeO.none _
   | refine LeO.ite ?_ ?_
   | refine LeO.bind ?_ (fun _ => ?_)
  ·intro y0 y1 y2 y3 y4 y5 y6 y7 y8
   unfold laws_FnClasses.l1
   repeat' first
   | with_reducible first | exact ih0 _ _ _ _ _ _ _ _ _ _ _ | exact ih1 _ _ _ _ _ | exact ih2 _ | exact ih3 _ _ _ | exact ih4 _ _ _ _ | exact ih5 _ _ _ _ _ | exact ih6 _ _ _ _ _ _ _ _ _ | exact impl_AreApart.mono _ _ | exact impl_AreExact.mono _ _ | exact impl_AreNatural.mono _ _ | exact impl_ClassesOfTurns.mono _ _ _ | exact impl_DoCover.mono _ _ | exact impl_FirstUncovered.mono _ _ | exact impl_TurnsOfClasses.mono _ _ | exact impl_WaitsOf.mono _ _ _ | exact laws_classes5.mono _ _ _ | exact laws_likeInts.mono _ _ _ | exact spec_AreApart.mono _ _ | exact spec_AreClasses.mono _ _ | exact spec_AreExact.mono _ _ | exact spec_AreNatural.mono _ _ | exact spec_ClassesOfTurns.mono _ _ _ | exact spec_DoCover.mono _ _ | exact spec_DrawClassesOfTurns.mono _ _ | exact spec_DrawTurnsOfClasses.mono _ _ | exact spec_FirstUncovered.mono _ _ | exact spec_TurnsOfClasses.mono _ _ | exact LeO.refl _ | exact LeO.none _ | refine LeO.ite ?_ ?_ | refine LeO.bind ?_ (fun _ => ?_)
   | exact ih0 _ _ _ _ _ _ _ _ _ _ _
   | exact ih1 _ _ _ _ _
   | exact ih2 _
   | exact ih3 _ _ _
   | exact ih4 _ _ _ _
   | exact ih5 _ _ _ _ _
   | exact ih6 _ _ _ _ _ _ _ _ _
   | exact impl_AreApart.mono _ _
   | exact impl_AreExact.mono _ _
   | exact impl_AreNatural.mono _ _
   | exact impl_ClassesOfTurns.mono _ _ _
   | exact impl_DoCover.mono _ _
   | exact impl_FirstUncovered.mono _ _
   | exact impl_TurnsOfClasses.mono _ _
   | exact impl_WaitsOf.mono _ _ _
   | exact laws_classes5.mono _ _ _
   | exact laws_likeInts.mono _ _ _
   | exact spec_AreApart.mono _ _
   | exact spec_AreClasses.mono _ _
   | exact spec_AreExact.mono _ _
   | exact spec_AreNatural.mono _ _
   | exact spec_ClassesOfTurns.mono _ _ _
   | exact spec_DoCover.mono _ _
   | exact spec_DrawClassesOfTurns.mono _ _
   | exact spec_DrawTurnsOfClasses.mono _ _
   | exact spec_FirstUncovered.mono _ _
   | exact spec_TurnsOfClasses.mono _ _
   | exact LeO.none _
   | refine LeO.ite ?_ ?_
   | refine LeO.bind ?_ (fun _ => ?_)
theorem laws_FnClasses.mono : ∀ a0 k, LeO (laws_FnClasses.f k a0) (laws_FnClasses.f (k + 1) a0) := by
 intro a0 k
 obtain ⟨ih0, ih1, ih2, ih3, ih4, ih5, ih6⟩ := laws_FnClasses.mono_l k
 unfold laws_FnClasses.f
 repeat' first
   | with_reducible first | exact ih0 _ _ _ _ _ _ _ _ _ _ _ | exact ih1 _ _ _ _ _ | exact ih2 _ | exact ih3 _ _ _ | exact ih4 _ _ _ _ | exact ih5 _ _ _ _ _ | exact ih6 _ _ _ _ _ _ _ _ _ | exact impl_AreApart.mono _ _ | exact impl_AreExact.mono _ _ | exact impl_AreNatural.mono _ _ | exact impl_ClassesOfTurns.mono _ _ _ | exact impl_DoCover.mono _ _ | exact impl_FirstUncovered.mono _ _ | exact impl_TurnsOfClasses.mono _ _ | exact impl_WaitsOf.mono _ _ _ | exact laws_classes5.mono _ _ _ | exact laws_likeInts.mono _ _ _ | exact spec_AreApart.mono _ _ | exact spec_AreClasses.mono _ _ | exact spec_AreExact.mono _ _ | exact spec_AreNatural.mono _ _ | exact spec_ClassesOfTurns.mono _ _ _ | exact spec_DoCover.mono _ _ | exact spec_DrawClassesOfTurns.mono _ _ | exact spec_DrawTurnsOfClasses.mono _ _ | exact spec_FirstUncovered.mono _ _ | exact spec_TurnsOfClasses.mono _ _ | exact LeO.refl _ | exact LeO.none _ | refine LeO.ite ?_ ?_ | refine LeO.bind ?_ (fun _ => ?_)
   | exact ih0 _ _ _ _ _ _ _ _ _ _ _
   | exact ih1 _ _ _ _ _
   | exact ih2 _
   | exact ih3 _ _ _
   | exact ih4 _ _ _ _
   | exact ih5 _ _ _ _ _
   | exact ih6 _ _ _ _ _ _ _ _ _
   | exact impl_AreApart.mono _ _
   | exact impl_AreExact.mono _ _
   | exact impl_AreNatural.mono _ _
   | exact impl_ClassesOfTurns.mono _ _ _
   | exact impl_DoCover.mono _ _
   | exact impl_FirstUncovered.mono _ _
   | exact impl_TurnsOfClasses.mono _ _
   | exact impl_WaitsOf.mono _ _ _
   | exact laws_classes5.mono _ _ _
   | exact laws_likeInts.mono _ _ _
   | exact spec_AreApart.mono _ _
   | exact spec_AreClasses.mono _ _
   | exact spec_AreExact.mono _ _
   | exact spec_AreNatural.mono _ _
   | exact spec_ClassesOfTurns.mono _ _ _
   | exact spec_DoCover.mono _ _
   | exact spec_DrawClassesOfTurns.mono _ _
   | exact spec_DrawTurnsOfClasses.mono _ _
   | exact spec_FirstUncovered.mono _ _
   | exact spec_TurnsOfClasses.mono _ _
   | exact LeO.none _
   | refine LeO.ite ?_ ?_
   | refine LeO.bind ?_ (fun _ => ?_)
set_option maxHeartbeats 8000000 in
set_option maxRecDepth 100000 in
theorem laws_FnClasses.calls (k : Nat) (A0 : Option Addr) (c0 : Nat) (l0 : List Int) (r : Bool) (w : World) (hr0 : Kd.C (Kd.int .u8) w A0 l0.length l0) (hc0 : l0.length ≤ c0) (h : laws_FnClasses.f k l0 = some r) :
  Calls Try.prog 3 #[.slice A0 l0.length c0] w fun e w' => e = .returned (.bool r) ∧ Below w.heap.size w w' := by
 have HR0 := am hr0
 have HC0 := am hc0
 clear hr0 hc0
 have HB := am (Below.refl w.heap.size w)
 have H : ((laws_big.f l0).bind fun t579 => (if t579 = true then (some true) else ((spec_DrawTurnsOfClasses.f k l0).bind fun t580 => ((impl_TurnsOfClasses.f k t580).bind fun bt583 => ((spec_TurnsOfClasses.f k t580).bind fun bt587 => ((impl_AreApart.f k t580).bind fun bt591 => ((spec_AreApart.f k t580).bind fun bt593 => ((impl_AreExact.f k t580).bind fun bt595 => ((spec_AreExact.f k t580).bind fun bt597 => ((impl_DoCover.f k t580).bind fun bt599 => ((spec_DoCover.f k t580).bind fun bt601 => ((impl_FirstUncovered.f k t580).bind fun bt603 => ((spec_FirstUncovered.f k t580).bind fun bt605 => ((impl_AreNatural.f k t580).bind fun bt607 => ((spec_AreNatural.f k t580).bind fun bt609 => (if bt583.2 = bt587.2 then ((laws_likeInts.f k bt583.1 bt587.1).bind fun t611 => (if t611 = true then (if bt591.2 = bt593.2 then (if (bt591.1 != bt593.1) = true then (none) else (if bt595.2 = bt597.2 then (if (bt595.1 != bt597.1) = true then (none) else (if bt599.2 = bt601.2 then (if (bt599.1 != bt601.1) = true then (none) else (if bt603.2 = bt605.2 then (if bt603.1 = bt605.1 then (if bt607.2 = bt609.2 then (if (bt607.1 != bt609.1) = true then (none) else ((impl_AreClasses.f t580).bind fun t612 => ((spec_AreClasses.f k t580).bind fun t613 => (laws_FnClasses.j0 k l0 t580 bt583.1 bt583.2 bt591.1 bt595.1 bt599.1 bt599.2 bt603.2 bt607.1 (t612 != t613))))) else (none)) else (none)) else (none))) else (none))) else (none))) else (none)) else (none))) else (none))))))))))))))))) = some r := h
 clear h
 replace H := Option.bind_eq_some_iff.mp H
 obtain ⟨t579, A20, H⟩ := H
 try dsimp only at H
 have A2 := am A20
 clear A20
 by_cases c3 : t579 = true
 ·subst c3
  rw [if_pos rfl] at H
  obtain rfl := Option.some.inj H
  go_enter Try.func3, Try.ntmps3
  go_wp2_with (first | (go_at_call 4; (with_reducible refine (laws_big.calls _ _ l0 true _ ?side1 ?side2 A2.out).mono ?_); (case side1 => exact kC HR0.out); (case side2 => exact HC0.out); rintro e w' ⟨rfl, ⟨nd, rfl⟩⟩; (try first | exact ⟨rfl, _, World.drewN_drewN _ _ _⟩ | exact ⟨rfl, _, Eq.trans (World.drewN_drewN _ _ _) (congrArg (World.drewN _) (Nat.add_assoc _ _ _))⟩)))
  repeat (go_quiet (first | (go_at_call 4; (try simp only [i64_w]); (with_reducible refine (laws_big.calls _ _ l0 true _ ?side1 ?side2 A2.out).mono ?_); (case side1 => exact kC HR0.out); (case side2 => exact HC0.out); rintro e w' ⟨rfl, ⟨nd, rfl⟩⟩; (try first | exact ⟨rfl, _, World.drewN_drewN _ _ _⟩ | exact ⟨rfl, _, Eq.trans (World.drewN_drewN _ _ _) (congrArg (World.drewN _) (Nat.add_assoc _ _ _))⟩))); try go_wp2_with (first | (go_at_call 4; (try simp only [i64_w]); (with_reducible refine (laws_big.calls _ _ l0 true _ ?side1 ?side2 A2.out).mono ?_); (case side1 => exact kC HR0.out); (case side2 => exact HC0.out); rintro e w' ⟨rfl, ⟨nd, rfl⟩⟩; (try first | exact ⟨rfl, _, World.drewN_drewN _ _ _⟩ | exact ⟨rfl, _, Eq.trans (World.drewN_drewN _ _ _) (congrArg (World.drewN _) (Nat.add_assoc _ _ _))⟩))))
  go_ret
  exact ⟨by first | rfl | (simp [errW_none, errW_some] <;> rfl) | (simp [*, errW_none, errW_some] <;> rfl), kB HB⟩
 ·replace c3 := Bool.eq_false_iff.mpr c3
  subst c3
  rw [if_neg (show ¬ (false = true) by decide)] at H
  replace H := Option.bind_eq_some_iff.mp H
  obtain ⟨t580, A40, H⟩ := H
  try dsimp only at H
  have A4 := am A40
  clear A40
  replace H := Option.bind_eq_some_iff.mp H
  obtain ⟨⟨t583, t584⟩, A50, H⟩ := H
  try dsimp only at H
  have A5 := am A50
  clear A50
  replace H := Option.bind_eq_some_iff.mp H
  obtain ⟨⟨t587, t588⟩, A60, H⟩ := H
  try dsimp only at H
  have A6 := am A60
  clear A60
  replace H := Option.bind_eq_some_iff.mp H
  obtain ⟨⟨t591, t592⟩, A70, H⟩ := H
  try dsimp only at H
  have A7 := am A70
  clear A70
  replace H := Option.bind_eq_some_iff.mp H
  obtain ⟨⟨t593, t594⟩, A80, H⟩ := H
  try dsimp only at H
  have A8 := am A80
  clear A80
  replace H := Option.bind_eq_some_iff.mp H
  obtain ⟨⟨t595, t596⟩, A90, H⟩ := H
  try dsimp only at H
  have A9 := am A90
  clear A90
  replace H := Option.bind_eq_some_iff.mp H
  obtain ⟨⟨t597, t598⟩, A100, H⟩ := H
  try dsimp only at H
  have A10 := am A100
  clear A100
  replace H := Option.bind_eq_some_iff.mp H
  obtain ⟨⟨t599, t600⟩, A110, H⟩ := H
  try dsimp only at H
  have A11 := am A110
  clear A110
  replace H := Option.bind_eq_some_iff.mp H
  obtain ⟨⟨t601, t602⟩, A120, H⟩ := H
  try dsimp only at H
  have A12 := am A120
  clear A120
  replace H := Option.bind_eq_some_iff.mp H
  obtain ⟨⟨t603, t604⟩, A130, H⟩ := H
  try dsimp only at H
  have A13 := am A130
  clear A130
  replace H := Option.bind_eq_some_iff.mp H
  obtain ⟨⟨t605, t606⟩, A140, H⟩ := H
  try dsimp only at H
  have A14 := am A140
  clear A140
  replace H := Option.bind_eq_some_iff.mp H
  obtain ⟨⟨t607, t608⟩, A150, H⟩ := H
  try dsimp only at H
  have A15 := am A150
  clear A150
  replace H := Option.bind_eq_some_iff.mp H
  obtain ⟨⟨t609, t610⟩, A160, H⟩ := H
  try dsimp only at H
  have A16 := am A160
  clear A160
  have HC17 := am H
  clear H
  go_enter Try.func3, Try.ntmps3
  go_upto_region 16 with (first | (go_at_call 4; (with_reducible refine (laws_big.calls _ _ l0 false _ ?side1 ?side2 A2.out).mono ?_); (case side1 => exact kC HR0.out); (case side2 => exact HC0.out); rintro e w' ⟨rfl, ⟨nd, rfl⟩⟩; (try first | exact ⟨rfl, _, World.drewN_drewN _ _ _⟩ | exact ⟨rfl, _, Eq.trans (World.drewN_drewN _ _ _) (congrArg (World.drewN _) (Nat.add_assoc _ _ _))⟩)) | (go_at_call 5; (with_reducible refine (spec_DrawTurnsOfClasses.calls k _ _ l0 t580 _ ?side1 ?side2 A4.out).mono ?_); (case side1 => exact kC HR0.out); (case side2 => exact HC0.out); rintro e w18 ⟨v581, rfl, ho0, hb⟩; have n0_ := am (Kd.R_lower ho0 (below_size (kB HB))); have n1_ := am (below_step (kB HB) hb); clear HB; have HO582 := n0_; have HB := n1_; clear n0_ n1_; (try clear hb); (try clear hb2); (try clear hk); (try clear hi); (try clear ho0); obtain ⟨Ao19, co19, eo19⟩ := Kd.R_slice HO582.out; subst eo19) | (go_at_call 6; (with_reducible refine (impl_TurnsOfClasses.calls k _ _ t580 t583 t584 _ ?side1 ?side2 A5.out).mono ?_); (case side1 => exact kC (Kd.R_reads' HO582.out).2.2); (case side2 => exact (Kd.R_reads' HO582.out).2.1); rintro e w20 ⟨v585, rfl, ho0, hb⟩; have n0_ := am (Kd.R_below (kR HO582) hb); have n1_ := am (Kd.R_lower ho0 (below_size (kB HB))); have n2_ := am (below_step (kB HB) hb); clear HO582 HB; have HO582 := n0_; have HO586 := n1_; have HB := n2_; clear n0_ n1_ n2_; (try clear hb); (try clear hb2); (try clear hk); (try clear hi); (try clear ho0)) | (go_at_call 7; (with_reducible refine (spec_TurnsOfClasses.calls k _ _ t580 t587 t588 _ ?side1 ?side2 A6.out).mono ?_); (case side1 => exact kC (Kd.R_reads' HO582.out).2.2); (case side2 => exact (Kd.R_reads' HO582.out).2.1); rintro e w21 ⟨v589, rfl, ho0, hb⟩; have n0_ := am (Kd.R_below (kR HO582) hb); have n1_ := am (Kd.R_elder' (kR HO586) (Kd.R_base ho0) hb); have n2_ := am (Kd.R_lower (Kd.R_new' ho0 (Kd.R_lt (kR HO586))) (below_size (kB HB))); have n3_ := am (below_step (kB HB) hb); clear HO582 HO586 HB; have HO582 := n0_; have HO586 := n1_; have HO590 := n2_; have HB := n3_; clear n0_ n1_ n2_ n3_; (try clear hb); (try clear hb2); (try clear hk); (try clear hi); (try clear ho0)) | (go_at_call 8; (with_reducible refine (impl_AreApart.calls k _ _ t580 t591 t592 _ ?side1 ?side2 A7.out).mono ?_); (case side1 => exact kC (Kd.R_reads' HO582.out).2.2); (case side2 => exact (Kd.R_reads' HO582.out).2.1); rintro e w22 ⟨rfl, hb⟩; have n0_ := am (Kd.R_below (kR HO582) hb); have n1_ := am (Kd.R_below (kR HO586) hb); have n2_ := am (Kd.R_below (kR HO590) hb); have n3_ := am (below_step (kB HB) hb); clear HO582 HO586 HO590 HB; have HO582 := n0_; have HO586 := n1_; have HO590 := n2_; have HB := n3_; clear n0_ n1_ n2_ n3_; (try clear hb); (try clear hb2); (try clear hk); (try clear hi)) | (go_at_call 9; (with_reducible refine (spec_AreApart.calls k _ _ t580 t593 t594 _ ?side1 ?side2 A8.out).mono ?_); (case side1 => exact kC (Kd.R_reads' HO582.out).2.2); (case side2 => exact (Kd.R_reads' HO582.out).2.1); rintro e w23 ⟨rfl, hb⟩; have n0_ := am (Kd.R_below (kR HO582) hb); have n1_ := am (Kd.R_below (kR HO586) hb); have n2_ := am (Kd.R_below (kR HO590) hb); have n3_ := am (below_step (kB HB) hb); clear HO582 HO586 HO590 HB; have HO582 := n0_; have HO586 := n1_; have HO590 := n2_; have HB := n3_; clear n0_ n1_ n2_ n3_; (try clear hb); (try clear hb2); (try clear hk); (try clear hi)) | (go_at_call 10; (with_reducible refine (impl_AreExact.calls k _ _ t580 t595 t596 _ ?side1 ?side2 A9.out).mono ?_); (case side1 => exact kC (Kd.R_reads' HO582.out).2.2); (case side2 => exact (Kd.R_reads' HO582.out).2.1); rintro e w24 ⟨rfl, hb⟩; have n0_ := am (Kd.R_below (kR HO582) hb); have n1_ := am (Kd.R_below (kR HO586) hb); have n2_ := am (Kd.R_below (kR HO590) hb); have n3_ := am (below_step (kB HB) hb); clear HO582 HO586 HO590 HB; have HO582 := n0_; have HO586 := n1_; have HO590 := n2_; have HB := n3_; clear n0_ n1_ n2_ n3_; (try clear hb); (try clear hb2); (try clear hk); (try clear hi)) | (go_at_call 11; (with_reducible refine (spec_AreExact.calls k _ _ t580 t597 t598 _ ?side1 ?side2 A10.out).mono ?_); (case side1 => exact kC (Kd.R_reads' HO582.out).2.2); (case side2 => exact (Kd.R_reads' HO582.out).2.1); rintro e w25 ⟨rfl, hb⟩; have n0_ := am (Kd.R_below (kR HO582) hb); have n1_ := am (Kd.R_below (kR HO586) hb); have n2_ := am (Kd.R_below (kR HO590) hb); have n3_ := am (below_step (kB HB) hb); clear HO582 HO586 HO590 HB; have HO582 := n0_; have HO586 := n1_; have HO590 := n2_; have HB := n3_; clear n0_ n1_ n2_ n3_; (try clear hb); (try clear hb2); (try clear hk); (try clear hi)) | (go_at_call 12; (with_reducible refine (impl_DoCover.calls k _ _ t580 t599 t600 _ ?side1 ?side2 A11.out).mono ?_); (case side1 => exact kC (Kd.R_reads' HO582.out).2.2); (case side2 => exact (Kd.R_reads' HO582.out).2.1); rintro e w26 ⟨rfl, hb⟩; have n0_ := am (Kd.R_below (kR HO582) hb); have n1_ := am (Kd.R_below (kR HO586) hb); have n2_ := am (Kd.R_below (kR HO590) hb); have n3_ := am (below_step (kB HB) hb); clear HO582 HO586 HO590 HB; have HO582 := n0_; have HO586 := n1_; have HO590 := n2_; have HB := n3_; clear n0_ n1_ n2_ n3_; (try clear hb); (try clear hb2); (try clear hk); (try clear hi)) | (go_at_call 13; (with_reducible refine (spec_DoCover.calls k _ _ t580 t601 t602 _ ?side1 ?side2 A12.out).mono ?_); (case side1 => exact kC (Kd.R_reads' HO582.out).2.2); (case side2 => exact (Kd.R_reads' HO582.out).2.1); rintro e w' ⟨rfl, ⟨nd, rfl⟩⟩; (try first | exact ⟨rfl, _, World.drewN_drewN _ _ _⟩ | exact ⟨rfl, _, Eq.trans (World.drewN_drewN _ _ _) (congrArg (World.drewN _) (Nat.add_assoc _ _ _))⟩)) | (go_at_call 14; (with_reducible refine (impl_FirstUncovered.calls k _ _ t580 t603 t604 _ ?side1 ?side2 A13.out).mono ?_); (case side1 => exact kC (Kd.R_reads' HO582.out).2.2); (case side2 => exact (Kd.R_reads' HO582.out).2.1); rintro e w27 ⟨rfl, hb⟩; have n0_ := am (Kd.R_below (kR HO582) hb); have n1_ := am (Kd.R_below (kR HO586) hb); have n2_ := am (Kd.R_below (kR HO590) hb); have n3_ := am (below_step (kB HB) hb); clear HO582 HO586 HO590 HB; have HO582 := n0_; have HO586 := n1_; have HO590 := n2_; have HB := n3_; clear n0_ n1_ n2_ n3_; (try clear hb); (try clear hb2); (try clear hk); (try clear hi)) | (go_at_call 15; (with_reducible refine (spec_FirstUncovered.calls k _ _ t580 t605 t606 _ ?side1 ?side2 A14.out).mono ?_); (case side1 => exact kC (Kd.R_reads' HO582.out).2.2); (case side2 => exact (Kd.R_reads' HO582.out).2.1); rintro e w' ⟨rfl, ⟨nd, rfl⟩⟩; (try first | exact ⟨rfl, _, World.drewN_drewN _ _ _⟩ | exact ⟨rfl, _, Eq.trans (World.drewN_drewN _ _ _) (congrArg (World.drewN _) (Nat.add_assoc _ _ _))⟩)) | (go_at_call 16; (with_reducible refine (impl_AreNatural.calls k _ _ t580 t607 t608 _ ?side1 ?side2 A15.out).mono ?_); (case side1 => exact kC (Kd.R_reads' HO582.out).2.2); (case side2 => exact (Kd.R_reads' HO582.out).2.1); rintro e w28 ⟨rfl, hb⟩; have n0_ := am (Kd.R_below (kR HO582) hb); have n1_ := am (Kd.R_below (kR HO586) hb); have n2_ := am (Kd.R_below (kR HO590) hb); have n3_ := am (below_step (kB HB) hb); clear HO582 HO586 HO590 HB; have HO582 := n0_; have HO586 := n1_; have HO590 := n2_; have HB := n3_; clear n0_ n1_ n2_ n3_; (try clear hb); (try clear hb2); (try clear hk); (try clear hi)) | (go_at_call 17; (with_reducible refine (spec_AreNatural.calls k _ _ t580 t609 t610 _ ?side1 ?side2 A16.out).mono ?_); (case side1 => exact kC (Kd.R_reads' HO582.out).2.2); (case side2 => exact (Kd.R_reads' HO582.out).2.1); rintro e w29 ⟨rfl, hb⟩; have n0_ := am (Kd.R_below (kR HO582) hb); have n1_ := am (Kd.R_below (kR HO586) hb); have n2_ := am (Kd.R_below (kR HO590) hb); have n3_ := am (below_step (kB HB) hb); clear HO582 HO586 HO590 HB; have HO582 := n0_; have HO586 := n1_; have HO590 := n2_; have HB := n3_; clear n0_ n1_ n2_ n3_; (try clear hb); (try clear hb2); (try clear hk); (try clear hi)))
  repeat (go_quiet (first | (go_at_call 4; (try simp only [i64_w]); (with_reducible refine (laws_big.calls _ _ l0 false _ ?side1 ?side2 A2.out).mono ?_); (case side1 => exact kC HR0.out); (case side2 => exact HC0.out); rintro e w' ⟨rfl, ⟨nd, rfl⟩⟩; (try first | exact ⟨rfl, _, World.drewN_drewN _ _ _⟩ | exact ⟨rfl, _, Eq.trans (World.drewN_drewN _ _ _) (congrArg (World.drewN _) (Nat.add_assoc _ _ _))⟩)) | (go_at_call 5; (try simp only [i64_w]); (with_reducible refine (spec_DrawTurnsOfClasses.calls k _ _ l0 t580 _ ?side1 ?side2 A4.out).mono ?_); (case side1 => exact kC HR0.out); (case side2 => exact HC0.out); rintro e w18 ⟨v581, rfl, ho0, hb⟩; have n0_ := am (Kd.R_lower ho0 (below_size (kB HB))); have n1_ := am (below_step (kB HB) hb); clear HB; have HO582 := n0_; have HB := n1_; clear n0_ n1_; (try clear hb); (try clear hb2); (try clear hk); (try clear hi); (try clear ho0); obtain ⟨Ao19, co19, eo19⟩ := Kd.R_slice HO582.out; subst eo19) | (go_at_call 6; (try simp only [i64_w]); (with_reducible refine (impl_TurnsOfClasses.calls k _ _ t580 t583 t584 _ ?side1 ?side2 A5.out).mono ?_); (case side1 => exact kC (Kd.R_reads' HO582.out).2.2); (case side2 => exact (Kd.R_reads' HO582.out).2.1); rintro e w20 ⟨v585, rfl, ho0, hb⟩; have n0_ := am (Kd.R_below (kR HO582) hb); have n1_ := am (Kd.R_lower ho0 (below_size (kB HB))); have n2_ := am (below_step (kB HB) hb); clear HO582 HB; have HO582 := n0_; have HO586 := n1_; have HB := n2_; clear n0_ n1_ n2_; (try clear hb); (try clear hb2); (try clear hk); (try clear hi); (try clear ho0)) | (go_at_call 7; (try simp only [i64_w]); (with_reducible refine (spec_TurnsOfClasses.calls k _ _ t580 t587 t588 _ ?side1 ?side2 A6.out).mono ?_); (case side1 => exact kC (Kd.R_reads' HO582.out).2.2); (case side2 => exact (Kd.R_reads' HO582.out).2.1); rintro e w21 ⟨v589, rfl, ho0, hb⟩; have n0_ := am (Kd.R_below (kR HO582) hb); have n1_ := am (Kd.R_elder' (kR HO586) (Kd.R_base ho0) hb); have n2_ := am (Kd.R_lower (Kd.R_new' ho0 (Kd.R_lt (kR HO586))) (below_size (kB HB))); have n3_ := am (below_step (kB HB) hb); clear HO582 HO586 HB; have HO582 := n0_; have HO586 := n1_; have HO590 := n2_; have HB := n3_; clear n0_ n1_ n2_ n3_; (try clear hb); (try clear hb2); (try clear hk); (try clear hi); (try clear ho0)) | (go_at_call 8; (try simp only [i64_w]); (with_reducible refine (impl_AreApart.calls k _ _ t580 t591 t592 _ ?side1 ?side2 A7.out).mono ?_); (case side1 => exact kC (Kd.R_reads' HO582.out).2.2); (case side2 => exact (Kd.R_reads' HO582.out).2.1); rintro e w22 ⟨rfl, hb⟩; have n0_ := am (Kd.R_below (kR HO582) hb); have n1_ := am (Kd.R_below (kR HO586) hb); have n2_ := am (Kd.R_below (kR HO590) hb); have n3_ := am (below_step (kB HB) hb); clear HO582 HO586 HO590 HB; have HO582 := n0_; have HO586 := n1_; have HO590 := n2_; have HB := n3_; clear n0_ n1_ n2_ n3_; (try clear hb); (try clear hb2); (try clear hk); (try clear hi)) | (go_at_call 9; (try simp only [i64_w]); (with_reducible refine (spec_AreApart.calls k _ _ t580 t593 t594 _ ?side1 ?side2 A8.out).mono ?_); (case side1 => exact kC (Kd.R_reads' HO582.out).2.2); (case side2 => exact (Kd.R_reads' HO582.out).2.1); rintro e w23 ⟨rfl, hb⟩; have n0_ := am (Kd.R_below (kR HO582) hb); have n1_ := am (Kd.R_below (kR HO586) hb); have n2_ := am (Kd.R_below (kR HO590) hb); have n3_ := am (below_step (kB HB) hb); clear HO582 HO586 HO590 HB; have HO582 := n0_; have HO586 := n1_; have HO590 := n2_; have HB := n3_; clear n0_ n1_ n2_ n3_; (try clear hb); (try clear hb2); (try clear hk); (try clear hi)) | (go_at_call 10; (try simp only [i64_w]); (with_reducible refine (impl_AreExact.calls k _ _ t580 t595 t596 _ ?side1 ?side2 A9.out).mono ?_); (case side1 => exact kC (Kd.R_reads' HO582.out).2.2); (case side2 => exact (Kd.R_reads' HO582.out).2.1); rintro e w24 ⟨rfl, hb⟩; have n0_ := am (Kd.R_below (kR HO582) hb); have n1_ := am (Kd.R_below (kR HO586) hb); have n2_ := am (Kd.R_below (kR HO590) hb); have n3_ := am (below_step (kB HB) hb); clear HO582 HO586 HO590 HB; have HO582 := n0_; have HO586 := n1_; have HO590 := n2_; have HB := n3_; clear n0_ n1_ n2_ n3_; (try clear hb); (try clear hb2); (try clear hk); (try clear hi)) | (go_at_call 11; (try simp only [i64_w]); (with_reducible refine (spec_AreExact.calls k _ _ t580 t597 t598 _ ?side1 ?side2 A10.out).mono ?_); (case side1 => exact kC (Kd.R_reads' HO582.out).2.2); (case side2 => exact (Kd.R_reads' HO582.out).2.1); rintro e w25 ⟨rfl, hb⟩; have n0_ := am (Kd.R_below (kR HO582) hb); have n1_ := am (Kd.R_below (kR HO586) hb); have n2_ := am (Kd.R_below (kR HO590) hb); have n3_ := am (below_step (kB HB) hb); clear HO582 HO586 HO590 HB; have HO582 := n0_; have HO586 := n1_; have HO590 := n2_; have HB := n3_; clear n0_ n1_ n2_ n3_; (try clear hb); (try clear hb2); (try clear hk); (try clear hi)) | (go_at_call 12; (try simp only [i64_w]); (with_reducible refine (impl_DoCover.calls k _ _ t580 t599 t600 _ ?side1 ?side2 A11.out).mono ?_); (case side1 => exact kC (Kd.R_reads' HO582.out).2.2); (case side2 => exact (Kd.R_reads' HO582.out).2.1); rintro e w26 ⟨rfl, hb⟩; have n0_ := am (Kd.R_below (kR HO582) hb); have n1_ := am (Kd.R_below (kR HO586) hb); have n2_ := am (Kd.R_below (kR HO590) hb); have n3_ := am (below_step (kB HB) hb); clear HO582 HO586 HO590 HB; have HO582 := n0_; have HO586 := n1_; have HO590 := n2_; have HB := n3_; clear n0_ n1_ n2_ n3_; (try clear hb); (try clear hb2); (try clear hk); (try clear hi)) | (go_at_call 13; (try simp only [i64_w]); (with_reducible refine (spec_DoCover.calls k _ _ t580 t601 t602 _ ?side1 ?side2 A12.out).mono ?_); (case side1 => exact kC (Kd.R_reads' HO582.out).2.2); (case side2 => exact (Kd.R_reads' HO582.out).2.1); rintro e w' ⟨rfl, ⟨nd, rfl⟩⟩; (try first | exact ⟨rfl, _, World.drewN_drewN _ _ _⟩ | exact ⟨rfl, _, Eq.trans (World.drewN_drewN _ _ _) (congrArg (World.drewN _) (Nat.add_assoc _ _ _))⟩)) | (go_at_call 14; (try simp only [i64_w]); (with_reducible refine (impl_FirstUncovered.calls k _ _ t580 t603 t604 _ ?side1 ?side2 A13.out).mono ?_); (case side1 => exact kC (Kd.R_reads' HO582.out).2.2); (case side2 => exact (Kd.R_reads' HO582.out).2.1); rintro e w27 ⟨rfl, hb⟩; have n0_ := am (Kd.R_below (kR HO582) hb); have n1_ := am (Kd.R_below (kR HO586) hb); have n2_ := am (Kd.R_below (kR HO590) hb); have n3_ := am (below_step (kB HB) hb); clear HO582 HO586 HO590 HB; have HO582 := n0_; have HO586 := n1_; have HO590 := n2_; have HB := n3_; clear n0_ n1_ n2_ n3_; (try clear hb); (try clear hb2); (try clear hk); (try clear hi)) | (go_at_call 15; (try simp only [i64_w]); (with_reducible refine (spec_FirstUncovered.calls k _ _ t580 t605 t606 _ ?side1 ?side2 A14.out).mono ?_); (case side1 => exact kC (Kd.R_reads' HO582.out).2.2); (case side2 => exact (Kd.R_reads' HO582.out).2.1); rintro e w' ⟨rfl, ⟨nd, rfl⟩⟩; (try first | exact ⟨rfl, _, World.drewN_drewN _ _ _⟩ | exact ⟨rfl, _, Eq.trans (World.drewN_drewN _ _ _) (congrArg (World.drewN _) (Nat.add_assoc _ _ _))⟩)) | (go_at_call 16; (try simp only [i64_w]); (with_reducible refine (impl_AreNatural.calls k _ _ t580 t607 t608 _ ?side1 ?side2 A15.out).mono ?_); (case side1 => exact kC (Kd.R_reads' HO582.out).2.2); (case side2 => exact (Kd.R_reads' HO582.out).2.1); rintro e w28 ⟨rfl, hb⟩; have n0_ := am (Kd.R_below (kR HO582) hb); have n1_ := am (Kd.R_below (kR HO586) hb); have n2_ := am (Kd.R_below (kR HO590) hb); have n3_ := am (below_step (kB HB) hb); clear HO582 HO586 HO590 HB; have HO582 := n0_; have HO586 := n1_; have HO590 := n2_; have HB := n3_; clear n0_ n1_ n2_ n3_; (try clear hb); (try clear hb2); (try clear hk); (try clear hi)) | (go_at_call 17; (try simp only [i64_w]); (with_reducible refine (spec_AreNatural.calls k _ _ t580 t609 t610 _ ?side1 ?side2 A16.out).mono ?_); (case side1 => exact kC (Kd.R_reads' HO582.out).2.2); (case side2 => exact (Kd.R_reads' HO582.out).2.1); rintro e w29 ⟨rfl, hb⟩; have n0_ := am (Kd.R_below (kR HO582) hb); have n1_ := am (Kd.R_below (kR HO586) hb); have n2_ := am (Kd.R_below (kR HO590) hb); have n3_ := am (below_step (kB HB) hb); clear HO582 HO586 HO590 HB; have HO582 := n0_; have HO586 := n1_; have HO590 := n2_; have HB := n3_; clear n0_ n1_ n2_ n3_; (try clear hb); (try clear hb2); (try clear hk); (try clear hi))); go_upto_region 16 with (first | (go_at_call 4; (try simp only [i64_w]); (with_reducible refine (laws_big.calls _ _ l0 false _ ?side1 ?side2 A2.out).mono ?_); (case side1 => exact kC HR0.out); (case side2 => exact HC0.out); rintro e w' ⟨rfl, ⟨nd, rfl⟩⟩; (try first | exact ⟨rfl, _, World.drewN_drewN _ _ _⟩ | exact ⟨rfl, _, Eq.trans (World.drewN_drewN _ _ _) (congrArg (World.drewN _) (Nat.add_assoc _ _ _))⟩)) | (go_at_call 5; (try simp only [i64_w]); (with_reducible refine (spec_DrawTurnsOfClasses.calls k _ _ l0 t580 _ ?side1 ?side2 A4.out).mono ?_); (case side1 => exact kC HR0.out); (case side2 => exact HC0.out); rintro e w18 ⟨v581, rfl, ho0, hb⟩; have n0_ := am (Kd.R_lower ho0 (below_size (kB HB))); have n1_ := am (below_step (kB HB) hb); clear HB; have HO582 := n0_; have HB := n1_; clear n0_ n1_; (try clear hb); (try clear hb2); (try clear hk); (try clear hi); (try clear ho0); obtain ⟨Ao19, co19, eo19⟩ := Kd.R_slice HO582.out; subst eo19) | (go_at_call 6; (try simp only [i64_w]); (with_reducible refine (impl_TurnsOfClasses.calls k _ _ t580 t583 t584 _ ?side1 ?side2 A5.out).mono ?_); (case side1 => exact kC (Kd.R_reads' HO582.out).2.2); (case side2 => exact (Kd.R_reads' HO582.out).2.1); rintro e w20 ⟨v585, rfl, ho0, hb⟩; have n0_ := am (Kd.R_below (kR HO582) hb); have n1_ := am (Kd.R_lower ho0 (below_size (kB HB))); have n2_ := am (below_step (kB HB) hb); clear HO582 HB; have HO582 := n0_; have HO586 := n1_; have HB := n2_; clear n0_ n1_ n2_; (try clear hb); (try clear hb2); (try clear hk); (try clear hi); (try clear ho0)) | (go_at_call 7; (try simp only [i64_w]); (with_reducible refine (spec_TurnsOfClasses.calls k _ _ t580 t587 t588 _ ?side1 ?side2 A6.out).mono ?_); (case side1 => exact kC (Kd.R_reads' HO582.out).2.2); (case side2 => exact (Kd.R_reads' HO582.out).2.1); rintro e w21 ⟨v589, rfl, ho0, hb⟩; have n0_ := am (Kd.R_below (kR HO582) hb); have n1_ := am (Kd.R_elder' (kR HO586) (Kd.R_base ho0) hb); have n2_ := am (Kd.R_lower (Kd.R_new' ho0 (Kd.R_lt (kR HO586))) (below_size (kB HB))); have n3_ := am (below_step (kB HB) hb); clear HO582 HO586 HB; have HO582 := n0_; have HO586 := n1_; have HO590 := n2_; have HB := n3_; clear n0_ n1_ n2_ n3_; (try clear hb); (try clear hb2); (try clear hk); (try clear hi); (try clear ho0)) | (go_at_call 8; (try simp only [i64_w]); (with_reducible refine (impl_AreApart.calls k _ _ t580 t591 t592 _ ?side1 ?side2 A7.out).mono ?_); (case side1 => exact kC (Kd.R_reads' HO582.out).2.2); (case side2 => exact (Kd.R_reads' HO582.out).2.1); rintro e w22 ⟨rfl, hb⟩; have n0_ := am (Kd.R_below (kR HO582) hb); have n1_ := am (Kd.R_below (kR HO586) hb); have n2_ := am (Kd.R_below (kR HO590) hb); have n3_ := am (below_step (kB HB) hb); clear HO582 HO586 HO590 HB; have HO582 := n0_; have HO586 := n1_; have HO590 := n2_; have HB := n3_; clear n0_ n1_ n2_ n3_; (try clear hb); (try clear hb2); (try clear hk); (try clear hi)) | (go_at_call 9; (try simp only [i64_w]); (with_reducible refine (spec_AreApart.calls k _ _ t580 t593 t594 _ ?side1 ?side2 A8.out).mono ?_); (case side1 => exact kC (Kd.R_reads' HO582.out).2.2); (case side2 => exact (Kd.R_reads' HO582.out).2.1); rintro e w23 ⟨rfl, hb⟩; have n0_ := am (Kd.R_below (kR HO582) hb); have n1_ := am (Kd.R_below (kR HO586) hb); have n2_ := am (Kd.R_below (kR HO590) hb); have n3_ := am (below_step (kB HB) hb); clear HO582 HO586 HO590 HB; have HO582 := n0_; have HO586 := n1_; have HO590 := n2_; have HB := n3_; clear n0_ n1_ n2_ n3_; (try clear hb); (try clear hb2); (try clear hk); (try clear hi)) | (go_at_call 10; (try simp only [i64_w]); (with_reducible refine (impl_AreExact.calls k _ _ t580 t595 t596 _ ?side1 ?side2 A9.out).mono ?_); (case side1 => exact kC (Kd.R_reads' HO582.out).2.2); (case side2 => exact (Kd.R_reads' HO582.out).2.1); rintro e w24 ⟨rfl, hb⟩; have n0_ := am (Kd.R_below (kR HO582) hb); have n1_ := am (Kd.R_below (kR HO586) hb); have n2_ := am (Kd.R_below (kR HO590) hb); have n3_ := am (below_step (kB HB) hb); clear HO582 HO586 HO590 HB; have HO582 := n0_; have HO586 := n1_; have HO590 := n2_; have HB := n3_; clear n0_ n1_ n2_ n3_; (try clear hb); (try clear hb2); (try clear hk); (try clear hi)) | (go_at_call 11; (try simp only [i64_w]); (with_reducible refine (spec_AreExact.calls k _ _ t580 t597 t598 _ ?side1 ?side2 A10.out).mono ?_); (case side1 => exact kC (Kd.R_reads' HO582.out).2.2); (case side2 => exact (Kd.R_reads' HO582.out).2.1); rintro e w25 ⟨rfl, hb⟩; have n0_ := am (Kd.R_below (kR HO582) hb); have n1_ := am (Kd.R_below (kR HO586) hb); have n2_ := am (Kd.R_below (kR HO590) hb); have n3_ := am (below_step (kB HB) hb); clear HO582 HO586 HO590 HB; have HO582 := n0_; have HO586 := n1_; have HO590 := n2_; have HB := n3_; clear n0_ n1_ n2_ n3_; (try clear hb); (try clear hb2); (try clear hk); (try clear hi)) | (go_at_call 12; (try simp only [i64_w]); (with_reducible refine (impl_DoCover.calls k _ _ t580 t599 t600 _ ?side1 ?side2 A11.out).mono ?_); (case side1 => exact kC (Kd.R_reads' HO582.out).2.2); (case side2 => exact (Kd.R_reads' HO582.out).2.1); rintro e w26 ⟨rfl, hb⟩; have n0_ := am (Kd.R_below (kR HO582) hb); have n1_ := am (Kd.R_below (kR HO586) hb); have n2_ := am (Kd.R_below (kR HO590) hb); have n3_ := am (below_step (kB HB) hb); clear HO582 HO586 HO590 HB; have HO582 := n0_; have HO586 := n1_; have HO590 := n2_; have HB := n3_; clear n0_ n1_ n2_ n3_; (try clear hb); (try clear hb2); (try clear hk); (try clear hi)) | (go_at_call 13; (try simp only [i64_w]); (with_reducible refine (spec_DoCover.calls k _ _ t580 t601 t602 _ ?side1 ?side2 A12.out).mono ?_); (case side1 => exact kC (Kd.R_reads' HO582.out).2.2); (case side2 => exact (Kd.R_reads' HO582.out).2.1); rintro e w' ⟨rfl, ⟨nd, rfl⟩⟩; (try first | exact ⟨rfl, _, World.drewN_drewN _ _ _⟩ | exact ⟨rfl, _, Eq.trans (World.drewN_drewN _ _ _) (congrArg (World.drewN _) (Nat.add_assoc _ _ _))⟩)) | (go_at_call 14; (try simp only [i64_w]); (with_reducible refine (impl_FirstUncovered.calls k _ _ t580 t603 t604 _ ?side1 ?side2 A13.out).mono ?_); (case side1 => exact kC (Kd.R_reads' HO582.out).2.2); (case side2 => exact (Kd.R_reads' HO582.out).2.1); rintro e w27 ⟨rfl, hb⟩; have n0_ := am (Kd.R_below (kR HO582) hb); have n1_ := am (Kd.R_below (kR HO586) hb); have n2_ := am (Kd.R_below (kR HO590) hb); have n3_ := am (below_step (kB HB) hb); clear HO582 HO586 HO590 HB; have HO582 := n0_; have HO586 := n1_; have HO590 := n2_; have HB := n3_; clear n0_ n1_ n2_ n3_; (try clear hb); (try clear hb2); (try clear hk); (try clear hi)) | (go_at_call 15; (try simp only [i64_w]); (with_reducible refine (spec_FirstUncovered.calls k _ _ t580 t605 t606 _ ?side1 ?side2 A14.out).mono ?_); (case side1 => exact kC (Kd.R_reads' HO582.out).2.2); (case side2 => exact (Kd.R_reads' HO582.out).2.1); rintro e w' ⟨rfl, ⟨nd, rfl⟩⟩; (try first | exact ⟨rfl, _, World.drewN_drewN _ _ _⟩ | exact ⟨rfl, _, Eq.trans (World.drewN_drewN _ _ _) (congrArg (World.drewN _) (Nat.add_assoc _ _ _))⟩)) | (go_at_call 16; (try simp only [i64_w]); (with_reducible refine (impl_AreNatural.calls k _ _ t580 t607 t608 _ ?side1 ?side2 A15.out).mono ?_); (case side1 => exact kC (Kd.R_reads' HO582.out).2.2); (case side2 => exact (Kd.R_reads' HO582.out).2.1); rintro e w28 ⟨rfl, hb⟩; have n0_ := am (Kd.R_below (kR HO582) hb); have n1_ := am (Kd.R_below (kR HO586) hb); have n2_ := am (Kd.R_below (kR HO590) hb); have n3_ := am (below_step (kB HB) hb); clear HO582 HO586 HO590 HB; have HO582 := n0_; have HO586 := n1_; have HO590 := n2_; have HB := n3_; clear n0_ n1_ n2_ n3_; (try clear hb); (try clear hb2); (try clear hk); (try clear hi)) | (go_at_call 17; (try simp only [i64_w]); (with_reducible refine (spec_AreNatural.calls k _ _ t580 t609 t610 _ ?side1 ?side2 A16.out).mono ?_); (case side1 => exact kC (Kd.R_reads' HO582.out).2.2); (case side2 => exact (Kd.R_reads' HO582.out).2.1); rintro e w29 ⟨rfl, hb⟩; have n0_ := am (Kd.R_below (kR HO582) hb); have n1_ := am (Kd.R_below (kR HO586) hb); have n2_ := am (Kd.R_below (kR HO590) hb); have n3_ := am (below_step (kB HB) hb); clear HO582 HO586 HO590 HB; have HO582 := n0_; have HO586 := n1_; have HO590 := n2_; have HB := n3_; clear n0_ n1_ n2_ n3_; (try clear hb); (try clear hb2); (try clear hk); (try clear hi))))
  (try simp only [Act.put, List.setIfInBounds_toArray, List.set_cons_zero, List.set_cons_succ])
  go_cut [171] (fun v171 wc => ∃ (kq : Nat) (x171_16 : Bool), v171 = .bool x171_16 ∧ Aside0 (laws_FnClasses.j0 kq l0 t580 t583 t584 t591 t595 t599 t600 t604 t607 x171_16 = some r) ∧ Aside0 (kq ≤ k) ∧ Aside0 (Kd.R k40 40 wc w.heap.size (fun _ => True) (.slice Ao19 t580.length co19) t580) ∧ Aside0 (Kd.R (Kd.int .i64) 2 wc w.heap.size (fun _ => True) v585 t583) ∧ Aside0 (Below w.heap.size w wc))
  case first => as_aux_lemma =>
   have H := HC17.out
   clear HC17
   by_cases c30 : t584 = t588
   ·rw [if_pos c30] at H
    have c30b0 : (t584 == t588) = true := beq_iff_eq.mpr c30
    have c30b1 : (t584 != t588) = false := bne_eq_false_iff_eq.mpr c30
    clear c30
    (first | rw [c30b0] | (simp only [i64_w, i32_w]; rw [c30b0]) | skip)
    replace H := Option.bind_eq_some_iff.mp H
    obtain ⟨t611, A310, H⟩ := H
    try dsimp only at H
    have A31 := am A310
    clear A310
    by_cases c32 : t611 = true
    ·subst c32
     rw [if_pos rfl] at H
     by_cases c33 : t592 = t594
     ·rw [if_pos c33] at H
      have c33b0 : (t592 == t594) = true := beq_iff_eq.mpr c33
      have c33b1 : (t592 != t594) = false := bne_eq_false_iff_eq.mpr c33
      clear c33
      by_cases c34 : (t591 != t593) = true
      ·rw [if_pos c34] at H
       exact absurd H (by simp)
      ·rw [if_neg c34] at H
       have c34b0 : (t591 != t593) = false := by simpa using c34
       (try (have c34b1 : decide (t591 = t593) = true := by simpa using c34))
       (try (have c34b2 : (t591 == t593) = true := by simpa using c34))
       clear c34
       by_cases c37 : t596 = t598
       ·rw [if_pos c37] at H
        have c37b0 : (t596 == t598) = true := beq_iff_eq.mpr c37
        have c37b1 : (t596 != t598) = false := bne_eq_false_iff_eq.mpr c37
        clear c37
        by_cases c38 : (t595 != t597) = true
        ·rw [if_pos c38] at H
         exact absurd H (by simp)
        ·rw [if_neg c38] at H
         have c38b0 : (t595 != t597) = false := by simpa using c38
         (try (have c38b1 : decide (t595 = t597) = true := by simpa using c38))
         (try (have c38b2 : (t595 == t597) = true := by simpa using c38))
         clear c38
         by_cases c41 : t600 = t602
         ·rw [if_pos c41] at H
          have c41b0 : (t600 == t602) = true := beq_iff_eq.mpr c41
          have c41b1 : (t600 != t602) = false := bne_eq_false_iff_eq.mpr c41
          clear c41
          by_cases c42 : (t599 != t601) = true
          ·rw [if_pos c42] at H
           exact absurd H (by simp)
          ·rw [if_neg c42] at H
           have c42b0 : (t599 != t601) = false := by simpa using c42
           (try (have c42b1 : decide (t599 = t601) = true := by simpa using c42))
           (try (have c42b2 : (t599 == t601) = true := by simpa using c42))
           clear c42
           by_cases c45 : t604 = t606
           ·rw [if_pos c45] at H
            have c45b0 : (t604 == t606) = true := beq_iff_eq.mpr c45
            have c45b1 : (t604 != t606) = false := bne_eq_false_iff_eq.mpr c45
            clear c45
            by_cases c46 : t603 = t605
            ·rw [if_pos c46] at H
             have c46b0 : (t603 == t605) = true := beq_iff_eq.mpr c46
             have c46b1 : (t603 != t605) = false := bne_eq_false_iff_eq.mpr c46
             clear c46
             by_cases c47 : t608 = t610
             ·rw [if_pos c47] at H
              have c47b0 : (t608 == t610) = true := beq_iff_eq.mpr c47
              have c47b1 : (t608 != t610) = false := bne_eq_false_iff_eq.mpr c47
              clear c47
              by_cases c48 : (t607 != t609) = true
              ·rw [if_pos c48] at H
               exact absurd H (by simp)
              ·rw [if_neg c48] at H
               have c48b0 : (t607 != t609) = false := by simpa using c48
               (try (have c48b1 : decide (t607 = t609) = true := by simpa using c48))
               (try (have c48b2 : (t607 == t609) = true := by simpa using c48))
               clear c48
               replace H := Option.bind_eq_some_iff.mp H
               obtain ⟨t612, A510, H⟩ := H
               try dsimp only at H
               have A51 := am A510
               clear A510
               replace H := Option.bind_eq_some_iff.mp H
               obtain ⟨t613, A520, H⟩ := H
               try dsimp only at H
               have A52 := am A520
               clear A520
               have H' := am H
               clear H
               obtain ⟨Ao53, co53, eo53⟩ := Kd.R_slice HO586.out
               subst eo53
               obtain ⟨Ao54, co54, eo54⟩ := Kd.R_slice HO590.out
               subst eo54
               go_wp2_with (first | (go_at_call 18; (with_reducible refine (laws_likeInts.calls k _ _ t583 _ _ t587 true _ ?side1 ?side2 ?side3 ?side4 A31.out).mono ?_); (case side1 => exact kC (Kd.R_reads' HO586.out).2.2); (case side2 => exact (Kd.R_reads' HO586.out).2.1); (case side3 => exact kC (Kd.R_reads' HO590.out).2.2); (case side4 => exact (Kd.R_reads' HO590.out).2.1); rintro e w' ⟨rfl, ⟨nd, rfl⟩⟩; (try first | exact ⟨rfl, _, World.drewN_drewN _ _ _⟩ | exact ⟨rfl, _, Eq.trans (World.drewN_drewN _ _ _) (congrArg (World.drewN _) (Nat.add_assoc _ _ _))⟩)) | (go_at_call 19; (with_reducible refine (impl_AreClasses.calls _ _ t580 t612 _ ?side1 ?side2 A51.out).mono ?_); (case side1 => exact kC (Kd.R_reads' HO582.out).2.2); (case side2 => exact (Kd.R_reads' HO582.out).2.1); rintro e w55 ⟨rfl, hb⟩; have n0_ := am (Kd.R_below (kR HO582) hb); have n1_ := am (Kd.R_below (kR HO586) hb); have n2_ := am (Kd.R_below (kR HO590) hb); have n3_ := am (below_step (kB HB) hb); clear HO582 HO586 HO590 HB; have HO582 := n0_; have HO586 := n1_; have HO590 := n2_; have HB := n3_; clear n0_ n1_ n2_ n3_; (try clear hb); (try clear hb2); (try clear hk); (try clear hi)) | (go_at_call 20; (with_reducible refine (spec_AreClasses.calls k _ _ t580 t613 _ ?side1 ?side2 A52.out).mono ?_); (case side1 => exact kC (Kd.R_reads' HO582.out).2.2); (case side2 => exact (Kd.R_reads' HO582.out).2.1); rintro e w' ⟨rfl, ⟨nd, rfl⟩⟩; (try first | exact ⟨rfl, _, World.drewN_drewN _ _ _⟩ | exact ⟨rfl, _, Eq.trans (World.drewN_drewN _ _ _) (congrArg (World.drewN _) (Nat.add_assoc _ _ _))⟩)))
               repeat (go_quiet (first | (go_at_call 18; (try simp only [i64_w]); (with_reducible refine (laws_likeInts.calls k _ _ t583 _ _ t587 true _ ?side1 ?side2 ?side3 ?side4 A31.out).mono ?_); (case side1 => exact kC (Kd.R_reads' HO586.out).2.2); (case side2 => exact (Kd.R_reads' HO586.out).2.1); (case side3 => exact kC (Kd.R_reads' HO590.out).2.2); (case side4 => exact (Kd.R_reads' HO590.out).2.1); rintro e w' ⟨rfl, ⟨nd, rfl⟩⟩; (try first | exact ⟨rfl, _, World.drewN_drewN _ _ _⟩ | exact ⟨rfl, _, Eq.trans (World.drewN_drewN _ _ _) (congrArg (World.drewN _) (Nat.add_assoc _ _ _))⟩)) | (go_at_call 19; (try simp only [i64_w]); (with_reducible refine (impl_AreClasses.calls _ _ t580 t612 _ ?side1 ?side2 A51.out).mono ?_); (case side1 => exact kC (Kd.R_reads' HO582.out).2.2); (case side2 => exact (Kd.R_reads' HO582.out).2.1); rintro e w55 ⟨rfl, hb⟩; have n0_ := am (Kd.R_below (kR HO582) hb); have n1_ := am (Kd.R_below (kR HO586) hb); have n2_ := am (Kd.R_below (kR HO590) hb); have n3_ := am (below_step (kB HB) hb); clear HO582 HO586 HO590 HB; have HO582 := n0_; have HO586 := n1_; have HO590 := n2_; have HB := n3_; clear n0_ n1_ n2_ n3_; (try clear hb); (try clear hb2); (try clear hk); (try clear hi)) | (go_at_call 20; (try simp only [i64_w]); (with_reducible refine (spec_AreClasses.calls k _ _ t580 t613 _ ?side1 ?side2 A52.out).mono ?_); (case side1 => exact kC (Kd.R_reads' HO582.out).2.2); (case side2 => exact (Kd.R_reads' HO582.out).2.1); rintro e w' ⟨rfl, ⟨nd, rfl⟩⟩; (try first | exact ⟨rfl, _, World.drewN_drewN _ _ _⟩ | exact ⟨rfl, _, Eq.trans (World.drewN_drewN _ _ _) (congrArg (World.drewN _) (Nat.add_assoc _ _ _))⟩))); try go_wp2_with (first | (go_at_call 18; (try simp only [i64_w]); (with_reducible refine (laws_likeInts.calls k _ _ t583 _ _ t587 true _ ?side1 ?side2 ?side3 ?side4 A31.out).mono ?_); (case side1 => exact kC (Kd.R_reads' HO586.out).2.2); (case side2 => exact (Kd.R_reads' HO586.out).2.1); (case side3 => exact kC (Kd.R_reads' HO590.out).2.2); (case side4 => exact (Kd.R_reads' HO590.out).2.1); rintro e w' ⟨rfl, ⟨nd, rfl⟩⟩; (try first | exact ⟨rfl, _, World.drewN_drewN _ _ _⟩ | exact ⟨rfl, _, Eq.trans (World.drewN_drewN _ _ _) (congrArg (World.drewN _) (Nat.add_assoc _ _ _))⟩)) | (go_at_call 19; (try simp only [i64_w]); (with_reducible refine (impl_AreClasses.calls _ _ t580 t612 _ ?side1 ?side2 A51.out).mono ?_); (case side1 => exact kC (Kd.R_reads' HO582.out).2.2); (case side2 => exact (Kd.R_reads' HO582.out).2.1); rintro e w55 ⟨rfl, hb⟩; have n0_ := am (Kd.R_below (kR HO582) hb); have n1_ := am (Kd.R_below (kR HO586) hb); have n2_ := am (Kd.R_below (kR HO590) hb); have n3_ := am (below_step (kB HB) hb); clear HO582 HO586 HO590 HB; have HO582 := n0_; have HO586 := n1_; have HO590 := n2_; have HB := n3_; clear n0_ n1_ n2_ n3_; (try clear hb); (try clear hb2); (try clear hk); (try clear hi)) | (go_at_call 20; (try simp only [i64_w]); (with_reducible refine (spec_AreClasses.calls k _ _ t580 t613 _ ?side1 ?side2 A52.out).mono ?_); (case side1 => exact kC (Kd.R_reads' HO582.out).2.2); (case side2 => exact (Kd.R_reads' HO582.out).2.1); rintro e w' ⟨rfl, ⟨nd, rfl⟩⟩; (try first | exact ⟨rfl, _, World.drewN_drewN _ _ _⟩ | exact ⟨rfl, _, Eq.trans (World.drewN_drewN _ _ _) (congrArg (World.drewN _) (Nat.add_assoc _ _ _))⟩))))
               go_meet
               case rel => exact ⟨_, ((t612 != t613)), (by first | rfl | (simp; done) | (simp [*]; done)), H', ⟨by first | omega | exact Nat.le_refl _⟩, ⟨kR HO582⟩, ⟨by (with_reducible repeat (first | apply Kd.R_alloc | apply Kd.R_drewN | apply Kd.R_drew)); exact Kd.R_mono HO586.out (fun _ hk => trivial)⟩, ⟨kB HB⟩⟩
             ·rw [if_neg c47] at H
              exact absurd H (by simp)
            ·rw [if_neg c46] at H
             exact absurd H (by simp)
           ·rw [if_neg c45] at H
            exact absurd H (by simp)
         ·rw [if_neg c41] at H
          exact absurd H (by simp)
       ·rw [if_neg c37] at H
        exact absurd H (by simp)
     ·rw [if_neg c33] at H
      exact absurd H (by simp)
    ·replace c32 := Bool.eq_false_iff.mpr c32
     subst c32
     have H1 : (none) = some r := by rw [if_neg (show ¬ (false = true) by decide)] at H; exact H
     exact absurd H1 (by simp)
   ·rw [if_neg c30] at H
    exact absurd H (by simp)
  case rest => as_aux_lemma =>
   clear HC17
   try clear c3
   obtain ⟨kq, x171_16, rfl, HA, HJ16, HO_3, HO_4, HB⟩ := hcut
   cases kq with
   | zero => exact absurd HA.out (by simp [laws_FnClasses.j0])
   | succ kj16 =>
    have H := HA.out
    clear HA
    simp only [laws_FnClasses.j0] at H
    by_cases c70 : x171_16 = true
    ·subst c70
     rw [if_pos rfl] at H
     obtain rfl := Option.some.inj H
     go_wp2
     repeat (go_quiet (fail); try go_wp2)
     go_ret
     exact ⟨by first | rfl | (simp [errW_none, errW_some] <;> rfl) | (simp [*, errW_none, errW_some] <;> rfl), kB HB⟩
    ·replace c70 := Bool.eq_false_iff.mpr c70
     subst c70
     rw [if_neg (show ¬ (false = true) by decide)] at H
     have HC71 := am H
     clear H
     go_upto_region 18 with (fail)
     repeat (go_quiet (fail); go_upto_region 18 with (fail))
     go_cut [194] (fun v194 wc => ∃ (kq : Nat) (x194_70 : Bool), v194 = .bool x194_70 ∧ Aside0 (laws_FnClasses.j1 kq l0 t580 t583 t584 x194_70 = some r) ∧ Aside0 (kq ≤ kj16) ∧ Aside0 (Kd.R k40 40 wc w.heap.size (fun _ => True) (.slice Ao19 t580.length co19) t580) ∧ Aside0 (Kd.R (Kd.int .i64) 2 wc w.heap.size (fun _ => True) v585 t583) ∧ Aside0 (Below w.heap.size w wc))
     case first => as_aux_lemma =>
      have H := HC71.out
      clear HC71
      by_cases c72 : t600 = 0
      ·rw [if_pos c72] at H
       have c72b0 : (t600 == 0) = true := beq_iff_eq.mpr c72
       have c72b1 : (t600 != 0) = false := bne_eq_false_iff_eq.mpr c72
       clear c72
       (first | rw [c72b0] | (simp only [i64_w, i32_w]; rw [c72b0]) | skip)
       by_cases c73 : t591 = true
       ·subst c73
        rw [if_pos rfl] at H
        by_cases c74 : (t595 != t599) = true
        ·rw [if_pos c74] at H
         exact absurd H (by simp)
        ·rw [if_neg c74] at H
         have c74b0 : (t595 != t599) = false := by simpa using c74
         (try (have c74b1 : decide (t595 = t599) = true := by simpa using c74))
         (try (have c74b2 : (t595 == t599) = true := by simpa using c74))
         clear c74
         by_cases c75 : (t599 != (t604 == 4)) = true
         ·rw [if_pos c75] at H
          exact absurd H (by simp)
         ·rw [if_neg c75] at H
          have c75b0 : (t599 != (t604 == 4)) = false := by simpa using c75
          (try (have c75b1 : decide (t599 = (t604 == 4)) = true := by simpa using c75))
          (try (have c75b2 : (t599 == (t604 == 4)) = true := by simpa using c75))
          clear c75
          by_cases c76 : t607 = true
          ·subst c76
           rw [if_pos rfl] at H
           have H' := am H
           clear H
           go_wp2
           repeat (go_quiet (fail); try go_wp2)
           go_meet
           case rel => exact ⟨_, (!t595), (by first | rfl | (simp; done) | (simp [*]; done)), H', ⟨by have := HJ16.out; first | omega | exact Nat.le_refl _⟩, ⟨kR HO_3⟩, ⟨kR HO_4⟩, ⟨kB HB⟩⟩
          ·replace c76 := Bool.eq_false_iff.mpr c76
           subst c76
           rw [if_neg (show ¬ (false = true) by decide)] at H
           have H' := am H
           clear H
           go_wp2
           repeat (go_quiet (fail); try go_wp2)
           go_meet
           case rel => exact ⟨_, (false), (by first | rfl | (simp; done) | (simp [*]; done)), H', ⟨by have := HJ16.out; first | omega | exact Nat.le_refl _⟩, ⟨kR HO_3⟩, ⟨kR HO_4⟩, ⟨kB HB⟩⟩
       ·replace c73 := Bool.eq_false_iff.mpr c73
        subst c73
        rw [if_neg (show ¬ (false = true) by decide)] at H
        by_cases c77 : (t595 != false) = true
        ·rw [if_pos c77] at H
         exact absurd H (by simp)
        ·rw [if_neg c77] at H
         have c77b0 : (t595 != false) = false := by simpa using c77
         (try (have c77b1 : decide (t595 = false) = true := by simpa using c77))
         (try (have c77b2 : (t595 == false) = true := by simpa using c77))
         clear c77
         by_cases c78 : (t599 != (t604 == 4)) = true
         ·rw [if_pos c78] at H
          exact absurd H (by simp)
         ·rw [if_neg c78] at H
          have c78b0 : (t599 != (t604 == 4)) = false := by simpa using c78
          (try (have c78b1 : decide (t599 = (t604 == 4)) = true := by simpa using c78))
          (try (have c78b2 : (t599 == (t604 == 4)) = true := by simpa using c78))
          clear c78
          by_cases c79 : t607 = true
          ·subst c79
           rw [if_pos rfl] at H
           have H' := am H
           clear H
           go_wp2
           repeat (go_quiet (fail); try go_wp2)
           go_meet
           case rel => exact ⟨_, (!t595), (by first | rfl | (simp; done) | (simp [*]; done)), H', ⟨by have := HJ16.out; first | omega | exact Nat.le_refl _⟩, ⟨kR HO_3⟩, ⟨kR HO_4⟩, ⟨kB HB⟩⟩
          ·replace c79 := Bool.eq_false_iff.mpr c79
           subst c79
           rw [if_neg (show ¬ (false = true) by decide)] at H
           have H' := am H
           clear H
           go_wp2
           repeat (go_quiet (fail); try go_wp2)
           go_meet
           case rel => exact ⟨_, (false), (by first | rfl | (simp; done) | (simp [*]; done)), H', ⟨by have := HJ16.out; first | omega | exact Nat.le_refl _⟩, ⟨kR HO_3⟩, ⟨kR HO_4⟩, ⟨kB HB⟩⟩
      ·rw [if_neg c72] at H
       have c72b0 : (t600 == 0) = false := beq_eq_false_iff_ne.mpr c72
       have c72b1 : (t600 != 0) = true := bne_iff_ne.mpr c72
       (first | rw [c72b0] | (simp only [i64_w, i32_w]; rw [c72b0]) | skip)
       have H' := am H
       clear H
       go_wp2
       repeat (go_quiet (fail); try go_wp2)
       go_meet
       case rel => exact ⟨_, (false), (by first | rfl | (simp; done) | (simp [*]; done)), H', ⟨by have := HJ16.out; first | omega | exact Nat.le_refl _⟩, ⟨kR HO_3⟩, ⟨kR HO_4⟩, ⟨kB HB⟩⟩
     case rest => as_aux_lemma =>
      clear HC71
      try clear c3
      try clear c70
      obtain ⟨kq, x194_70, rfl, HA, HJ70, HO_3, HO_4, HB⟩ := hcut
      cases kq with
      | zero => exact absurd HA.out (by simp [laws_FnClasses.j1])
      | succ kj70 =>
       have H := HA.out
       clear HA
       simp only [laws_FnClasses.j1] at H
       by_cases c80 : x194_70 = true
       ·subst c80
        rw [if_pos rfl] at H
        obtain rfl := Option.some.inj H
        go_wp2
        repeat (go_quiet (fail); try go_wp2)
        go_ret
        exact ⟨by first | rfl | (simp [errW_none, errW_some] <;> rfl) | (simp [*, errW_none, errW_some] <;> rfl), kB HB⟩
       ·replace c80 := Bool.eq_false_iff.mpr c80
        subst c80
        rw [if_neg (show ¬ (false = true) by decide)] at H
        have HC81 := am H
        clear H
        go_upto_if 196 with (fail)
        repeat (go_quiet (fail); go_upto_if 196 with (fail))
        go_cut [] (fun wc => ∃ (kq : Nat), Aside0 (laws_FnClasses.j5 kq l0 = some r) ∧ Aside0 (kq ≤ kj70) ∧ Aside0 (Below w.heap.size w wc))
        case first => as_aux_lemma =>
         have H := HC81.out
         clear HC81
         by_cases c82 : t584 = 0
         ·rw [if_pos c82] at H
          have c82b0 : (t584 == 0) = true := beq_iff_eq.mpr c82
          have c82b1 : (t584 != 0) = false := bne_eq_false_iff_eq.mpr c82
          clear c82
          (first | rw [c82b0] | (simp only [i64_w, i32_w]; rw [c82b0]) | skip)
          replace H := Option.bind_eq_some_iff.mp H
          obtain ⟨⟨t614, t615⟩, A830, H⟩ := H
          try dsimp only at H
          have A83 := am A830
          clear A830
          have HC84 := am H
          clear H
          obtain ⟨Ao85, co85, eo85⟩ := Kd.R_slice HO_4.out
          subst eo85
          go_upto_region 22 with (first | (go_at_call 21; (with_reducible refine (impl_ClassesOfTurns.calls kj70 _ _ t583 (t580.length : Int) t614 t615 _ ?side1 ?side2 A83.out).mono ?_); (case side1 => exact kC (Kd.R_reads' HO_4.out).2.2); (case side2 => exact (Kd.R_reads' HO_4.out).2.1); rintro e w86 ⟨v616, rfl, ho0, hb⟩; have n0_ := am (Kd.R_elder' (kR HO_3) (Kd.R_base ho0) hb); have n1_ := am (Kd.R_below (kR HO_4) hb); have n2_ := am (Kd.R_lower (Kd.R_new' ho0 (Kd.R_lt (kR HO_3))) (below_size (kB HB))); have n3_ := am (below_step (kB HB) hb); clear HO_3 HO_4 HB; have HO_3 := n0_; have HO_4 := n1_; have HO617 := n2_; have HB := n3_; clear n0_ n1_ n2_ n3_; (try clear hb); (try clear hb2); (try clear hk); (try clear hi); (try clear ho0)))
          repeat (go_quiet (first | (go_at_call 21; (try simp only [i64_w]); (with_reducible refine (impl_ClassesOfTurns.calls kj70 _ _ t583 (t580.length : Int) t614 t615 _ ?side1 ?side2 A83.out).mono ?_); (case side1 => exact kC (Kd.R_reads' HO_4.out).2.2); (case side2 => exact (Kd.R_reads' HO_4.out).2.1); rintro e w86 ⟨v616, rfl, ho0, hb⟩; have n0_ := am (Kd.R_elder' (kR HO_3) (Kd.R_base ho0) hb); have n1_ := am (Kd.R_below (kR HO_4) hb); have n2_ := am (Kd.R_lower (Kd.R_new' ho0 (Kd.R_lt (kR HO_3))) (below_size (kB HB))); have n3_ := am (below_step (kB HB) hb); clear HO_3 HO_4 HB; have HO_3 := n0_; have HO_4 := n1_; have HO617 := n2_; have HB := n3_; clear n0_ n1_ n2_ n3_; (try clear hb); (try clear hb2); (try clear hk); (try clear hi); (try clear ho0))); go_upto_region 22 with (first | (go_at_call 21; (try simp only [i64_w]); (with_reducible refine (impl_ClassesOfTurns.calls kj70 _ _ t583 (t580.length : Int) t614 t615 _ ?side1 ?side2 A83.out).mono ?_); (case side1 => exact kC (Kd.R_reads' HO_4.out).2.2); (case side2 => exact (Kd.R_reads' HO_4.out).2.1); rintro e w86 ⟨v616, rfl, ho0, hb⟩; have n0_ := am (Kd.R_elder' (kR HO_3) (Kd.R_base ho0) hb); have n1_ := am (Kd.R_below (kR HO_4) hb); have n2_ := am (Kd.R_lower (Kd.R_new' ho0 (Kd.R_lt (kR HO_3))) (below_size (kB HB))); have n3_ := am (below_step (kB HB) hb); clear HO_3 HO_4 HB; have HO_3 := n0_; have HO_4 := n1_; have HO617 := n2_; have HB := n3_; clear n0_ n1_ n2_ n3_; (try clear hb); (try clear hb2); (try clear hk); (try clear hi); (try clear ho0))))
          (try simp only [Act.put, List.setIfInBounds_toArray, List.set_cons_zero, List.set_cons_succ])
          go_cut [211] (fun v211 wc => ∃ (kq : Nat) (x211_83 : Bool), v211 = .bool x211_83 ∧ Aside0 (laws_FnClasses.j2 kq l0 t580 t583 x211_83 = some r) ∧ Aside0 (kq ≤ kj70) ∧ Aside0 (Kd.R k40 40 wc w.heap.size (fun _ => True) (.slice Ao19 t580.length co19) t580) ∧ Aside0 (Kd.R (Kd.int .i64) 2 wc w.heap.size (fun _ => True) (.slice Ao85 t583.length co85) t583) ∧ Aside0 (Below w.heap.size w wc))
          case first => as_aux_lemma =>
           have H := HC84.out
           clear HC84
           by_cases c87 : t615 = 0
           ·rw [if_pos c87] at H
            have c87b0 : (t615 == 0) = true := beq_iff_eq.mpr c87
            have c87b1 : (t615 != 0) = false := bne_eq_false_iff_eq.mpr c87
            clear c87
            (first | rw [c87b0] | (simp only [i64_w, i32_w]; rw [c87b0]) | skip)
            replace H := Option.bind_eq_some_iff.mp H
            obtain ⟨t618, A880, H⟩ := H
            try dsimp only at H
            have A88 := am A880
            clear A880
            have H' := am H
            clear H
            obtain ⟨Ao89, co89, eo89⟩ := Kd.R_slice HO617.out
            subst eo89
            go_wp2_with (first | (go_at_call 22; (with_reducible refine (laws_classes5.calls kj70 _ _ t614 _ _ t580 t618 _ ?side1 ?side2 ?side3 ?side4 A88.out).mono ?_); (case side1 => exact kC (Kd.R_reads' HO617.out).2.2); (case side2 => exact (Kd.R_reads' HO617.out).2.1); (case side3 => exact kC (Kd.R_reads' HO_3.out).2.2); (case side4 => exact (Kd.R_reads' HO_3.out).2.1); rintro e w' ⟨rfl, ⟨nd, rfl⟩⟩; (try first | exact ⟨rfl, _, World.drewN_drewN _ _ _⟩ | exact ⟨rfl, _, Eq.trans (World.drewN_drewN _ _ _) (congrArg (World.drewN _) (Nat.add_assoc _ _ _))⟩)))
            repeat (go_quiet (first | (go_at_call 22; (try simp only [i64_w]); (with_reducible refine (laws_classes5.calls kj70 _ _ t614 _ _ t580 t618 _ ?side1 ?side2 ?side3 ?side4 A88.out).mono ?_); (case side1 => exact kC (Kd.R_reads' HO617.out).2.2); (case side2 => exact (Kd.R_reads' HO617.out).2.1); (case side3 => exact kC (Kd.R_reads' HO_3.out).2.2); (case side4 => exact (Kd.R_reads' HO_3.out).2.1); rintro e w' ⟨rfl, ⟨nd, rfl⟩⟩; (try first | exact ⟨rfl, _, World.drewN_drewN _ _ _⟩ | exact ⟨rfl, _, Eq.trans (World.drewN_drewN _ _ _) (congrArg (World.drewN _) (Nat.add_assoc _ _ _))⟩))); try go_wp2_with (first | (go_at_call 22; (try simp only [i64_w]); (with_reducible refine (laws_classes5.calls kj70 _ _ t614 _ _ t580 t618 _ ?side1 ?side2 ?side3 ?side4 A88.out).mono ?_); (case side1 => exact kC (Kd.R_reads' HO617.out).2.2); (case side2 => exact (Kd.R_reads' HO617.out).2.1); (case side3 => exact kC (Kd.R_reads' HO_3.out).2.2); (case side4 => exact (Kd.R_reads' HO_3.out).2.1); rintro e w' ⟨rfl, ⟨nd, rfl⟩⟩; (try first | exact ⟨rfl, _, World.drewN_drewN _ _ _⟩ | exact ⟨rfl, _, Eq.trans (World.drewN_drewN _ _ _) (congrArg (World.drewN _) (Nat.add_assoc _ _ _))⟩))))
            go_meet
            case rel => exact ⟨_, (!t618), (by first | rfl | (simp; done) | (simp [*]; done)), H', ⟨by have := HJ16.out; have := HJ70.out; first | omega | exact Nat.le_refl _⟩, ⟨by (with_reducible repeat (first | apply Kd.R_alloc | apply Kd.R_drewN | apply Kd.R_drew)); exact Kd.R_mono HO_3.out (fun _ hk => trivial)⟩, ⟨kR HO_4⟩, ⟨kB HB⟩⟩
           ·rw [if_neg c87] at H
            exact absurd H (by simp)
          case rest => as_aux_lemma =>
           clear HC84
           try clear c3
           try clear c70
           try clear c80
           try clear c82
           try clear c82b0
           try clear c82b1
           obtain ⟨kq, x211_83, rfl, HA, HJ83, HO_3, HO_4, HB⟩ := hcut
           cases kq with
           | zero => exact absurd HA.out (by simp [laws_FnClasses.j2])
           | succ kj83 =>
            have H := HA.out
            clear HA
            simp only [laws_FnClasses.j2] at H
            by_cases c90 : x211_83 = true
            ·subst c90
             rw [if_pos rfl] at H
             obtain rfl := Option.some.inj H
             go_wp2
             repeat (go_quiet (fail); try go_wp2)
             go_ret
             exact ⟨by first | rfl | (simp [errW_none, errW_some] <;> rfl) | (simp [*, errW_none, errW_some] <;> rfl), kB HB⟩
            ·replace c90 := Bool.eq_false_iff.mpr c90
             subst c90
             rw [if_neg (show ¬ (false = true) by decide)] at H
             have H' := am H
             clear H
             go_wp2
             repeat (go_quiet (fail); try go_wp2)
             go_loopg [214] kj83 (fun kq v214 w' => ∃ (x214_4 : Int), v214 = .int .i64 x214_4 ∧ Aside0 (laws_FnClasses.l0 kq l0 t580 t583 (t580.length : Int) x214_4 = some r) ∧ Aside0 (kq ≤ kj83) ∧ Aside0 (Kd.R k40 40 w' w.heap.size (fun _ => True) (.slice Ao19 t580.length co19) t580) ∧ Aside0 (Kd.R (Kd.int .i64) 2 w' w.heap.size (fun _ => True) (.slice Ao85 t583.length co85) t583) ∧ Aside0 (Below w.heap.size w w'))
             case atStart => exact ⟨(0), (by first | rfl | (simp; done) | (simp [*]; done)), H', ⟨Nat.le_refl _⟩, ⟨kR HO_3⟩, ⟨kR HO_4⟩, ⟨kB HB⟩⟩
             case round =>
              clear H'
              try clear c3
              try clear c70
              try clear c80
              try clear c82
              try clear c82b0
              try clear c82b1
              try clear c90
              obtain ⟨x214_4, rfl, HA, HK4, HO_3, HO_4, HB⟩ := hrel
              cases gk with
              | zero => exact absurd HA.out (by simp [laws_FnClasses.l0])
              | succ k4 =>
               have H := HA.out
               clear HA
               simp only [laws_FnClasses.l0] at H
               by_cases c91 : x214_4 < (t580.length : Int)
               ·rw [if_pos c91] at H
                have c91b0 : decide (x214_4 < (t580.length : Int)) = true := decide_eq_true c91
                clear c91
                replace H := Option.bind_eq_some_iff.mp H
                obtain ⟨⟨t619, t620⟩, A920, H⟩ := H
                try dsimp only at H
                have A92 := am A920
                clear A920
                by_cases c93 : t620 = 0
                ·rw [if_pos c93] at H
                 have c93b0 : (t620 == 0) = true := beq_iff_eq.mpr c93
                 have c93b1 : (t620 != 0) = false := bne_eq_false_iff_eq.mpr c93
                 clear c93
                 have H' := am H
                 clear H
                 go_wp2_with (first | (go_at_call 23; (with_reducible refine (impl_WaitsOf.calls k4 _ _ t583 x214_4 t619 t620 _ ?side1 ?side2 A92.out).mono ?_); (case side1 => exact kC (Kd.R_reads' HO_4.out).2.2); (case side2 => exact (Kd.R_reads' HO_4.out).2.1); rintro e w94 ⟨v621, rfl, ho0, hb⟩; have n0_ := am (Kd.R_below (kR HO_3) hb); have n1_ := am (Kd.R_elder' (kR HO_4) (Kd.R_base ho0) hb); have n2_ := am (Kd.R_lower (Kd.R_new' ho0 (Kd.R_lt (kR HO_4))) (below_size (kB HB))); have n3_ := am (below_step (kB HB) hb); clear HO_3 HO_4 HB; have HO_3 := n0_; have HO_4 := n1_; have HO622 := n2_; have HB := n3_; clear n0_ n1_ n2_ n3_; (try clear hb); (try clear hb2); (try clear hk); (try clear hi); (try clear ho0); obtain ⟨Ao95, co95, eo95⟩ := Kd.R_slice HO622.out; subst eo95))
                 repeat (go_quiet (first | (go_at_call 23; (try simp only [i64_w]); (with_reducible refine (impl_WaitsOf.calls k4 _ _ t583 x214_4 t619 t620 _ ?side1 ?side2 A92.out).mono ?_); (case side1 => exact kC (Kd.R_reads' HO_4.out).2.2); (case side2 => exact (Kd.R_reads' HO_4.out).2.1); rintro e w94 ⟨v621, rfl, ho0, hb⟩; have n0_ := am (Kd.R_below (kR HO_3) hb); have n1_ := am (Kd.R_elder' (kR HO_4) (Kd.R_base ho0) hb); have n2_ := am (Kd.R_lower (Kd.R_new' ho0 (Kd.R_lt (kR HO_4))) (below_size (kB HB))); have n3_ := am (below_step (kB HB) hb); clear HO_3 HO_4 HB; have HO_3 := n0_; have HO_4 := n1_; have HO622 := n2_; have HB := n3_; clear n0_ n1_ n2_ n3_; (try clear hb); (try clear hb2); (try clear hk); (try clear hi); (try clear ho0); obtain ⟨Ao95, co95, eo95⟩ := Kd.R_slice HO622.out; subst eo95)); try go_wp2_with (first | (go_at_call 23; (try simp only [i64_w]); (with_reducible refine (impl_WaitsOf.calls k4 _ _ t583 x214_4 t619 t620 _ ?side1 ?side2 A92.out).mono ?_); (case side1 => exact kC (Kd.R_reads' HO_4.out).2.2); (case side2 => exact (Kd.R_reads' HO_4.out).2.1); rintro e w94 ⟨v621, rfl, ho0, hb⟩; have n0_ := am (Kd.R_below (kR HO_3) hb); have n1_ := am (Kd.R_elder' (kR HO_4) (Kd.R_base ho0) hb); have n2_ := am (Kd.R_lower (Kd.R_new' ho0 (Kd.R_lt (kR HO_4))) (below_size (kB HB))); have n3_ := am (below_step (kB HB) hb); clear HO_3 HO_4 HB; have HO_3 := n0_; have HO_4 := n1_; have HO622 := n2_; have HB := n3_; clear n0_ n1_ n2_ n3_; (try clear hb); (try clear hb2); (try clear hk); (try clear hi); (try clear ho0); obtain ⟨Ao95, co95, eo95⟩ := Kd.R_slice HO622.out; subst eo95)))
                 go_loopg [227] k4 (fun kq v227 w' => ∃ (x227_5 : Int), v227 = .int .i64 x227_5 ∧ Aside0 (laws_FnClasses.l1 kq l0 t580 t583 x214_4 t619 (t580.length : Int) x214_4 (t619.length : Int) x227_5 = some r) ∧ Aside0 (kq ≤ k4) ∧ Aside0 (Kd.R k40 40 w' w.heap.size (fun _ => True) (.slice Ao19 t580.length co19) t580) ∧ Aside0 (Kd.R (Kd.int .i64) 2 w' w.heap.size (fun k_ => some k_ ≠ ((.slice Ao95 t619.length co95) : Value).ownBlock) (.slice Ao85 t583.length co85) t583) ∧ Aside0 (Kd.R (Kd.int .i64) 2 w' w.heap.size (fun k_ => some k_ ≠ ((.slice Ao85 t583.length co85) : Value).ownBlock) (.slice Ao95 t619.length co95) t619) ∧ Aside0 (Below w.heap.size w w'))
                 case atStart => exact ⟨(0), (by first | rfl | (simp; done) | (simp [*]; done)), H', ⟨Nat.le_refl _⟩, ⟨kR HO_3⟩, ⟨by (with_reducible repeat (first | apply Kd.R_alloc | apply Kd.R_drewN | apply Kd.R_drew)); exact Kd.R_mono HO_4.out (fun _ hk => hk.2)⟩, ⟨by (with_reducible repeat (first | apply Kd.R_alloc | apply Kd.R_drewN | apply Kd.R_drew)); exact Kd.R_mono HO622.out (fun _ hk => hk.2)⟩, ⟨kB HB⟩⟩
                 case round =>
                  clear H'
                  try clear c3
                  try clear c70
                  try clear c80
                  try clear c82
                  try clear c82b0
                  try clear c82b1
                  try clear c90
                  try clear c91
                  try clear c91b0
                  try clear c93
                  try clear c93b0
                  try clear c93b1
                  obtain ⟨x227_5, rfl, HA, HK5, HO_3, HO_4, HO_31, HB⟩ := hrel
                  cases gk with
                  | zero => exact absurd HA.out (by simp [laws_FnClasses.l1])
                  | succ k5 =>
                   have H := HA.out
                   clear HA
                   simp only [laws_FnClasses.l1] at H
                   by_cases c96 : x227_5 < (t619.length : Int)
                   ·rw [if_pos c96] at H
                    have c96b0 : decide (x227_5 < (t619.length : Int)) = true := decide_eq_true c96
                    clear c96
                    by_cases c97 : 0 ≤ x227_5
                    ·rw [if_pos c97] at H
                     have c97b0 : decide (0 ≤ x227_5) = true := decide_eq_true c97
                     clear c97
                     by_cases c98 : x227_5 < (t619.length : Int)
                     ·rw [if_pos c98] at H
                      have c98b0 : decide (x227_5 < (t619.length : Int)) = true := decide_eq_true c98
                      clear c98
                      by_cases c99 : 0 ≤ x214_4
                      ·rw [if_pos c99] at H
                       have c99b0 : decide (0 ≤ x214_4) = true := decide_eq_true c99
                       clear c99
                       by_cases c100 : x214_4 < (t580.length : Int)
                       ·rw [if_pos c100] at H
                        have c100b0 : decide (x214_4 < (t580.length : Int)) = true := decide_eq_true c100
                        clear c100
                        by_cases c101 : (rd t619 x227_5) = ((rd_T40 t580 x214_4).f1)
                        ·rw [if_pos c101] at H
                         have c101b0 : ((rd t619 x227_5) == ((rd_T40 t580 x214_4).f1)) = true := beq_iff_eq.mpr c101
                         have c101b1 : ((rd t619 x227_5) != ((rd_T40 t580 x214_4).f1)) = false := bne_eq_false_iff_eq.mpr c101
                         clear c101
                         have H' := am H
                         clear H
                         have p623 : 0 ≤ (x227_5 : Int) := of_decide_eq_true kM
                         have q623 : x227_5 < (t619.length : Int) := of_decide_eq_true kM
                         obtain ⟨ad623, e623, hx623_0⟩ := Kd.at_int (Kd.R_reads' HO_31.out).2.2 x227_5 p623 q623
                         cases e623
                         replace p623 := eq_true p623
                         replace q623 := eq_true q623
                         have p624 : 0 ≤ (x214_4 : Int) := of_decide_eq_true kM
                         have q624 : x214_4 < (t580.length : Int) := of_decide_eq_true kM
                         obtain ⟨ad624, e624, hx624_0, hx624_1⟩ := at_T40 (Kd.R_reads' HO_3.out).2.2 x214_4 p624 q624
                         cases e624
                         replace p624 := eq_true p624
                         replace q624 := eq_true q624
                         go_wp2
                         repeat (go_quiet (fail); try go_wp2)
                         go_roundg k5
                         case measure => have := HJ16.out; have := HJ70.out; have := HJ83.out; have := HK4.out; have := HK5.out; omega
                         case rel => exact ⟨(wrap64 (x227_5 + 1)), (by first | rfl | (simp; done) | (simp [*]; done)), H', ⟨by have := HJ16.out; have := HJ70.out; have := HJ83.out; have := HK4.out; have := HK5.out; omega⟩, ⟨kR HO_3⟩, ⟨kR HO_4⟩, ⟨kR HO_31⟩, ⟨kB HB⟩⟩
                        ·rw [if_neg c101] at H
                         have c101b0 : ((rd t619 x227_5) == ((rd_T40 t580 x214_4).f1)) = false := beq_eq_false_iff_ne.mpr c101
                         have c101b1 : ((rd t619 x227_5) != ((rd_T40 t580 x214_4).f1)) = true := bne_iff_ne.mpr c101
                         obtain rfl := Option.some.inj H
                         have p623 : 0 ≤ (x227_5 : Int) := of_decide_eq_true kM
                         have q623 : x227_5 < (t619.length : Int) := of_decide_eq_true kM
                         obtain ⟨ad623, e623, hx623_0⟩ := Kd.at_int (Kd.R_reads' HO_31.out).2.2 x227_5 p623 q623
                         cases e623
                         replace p623 := eq_true p623
                         replace q623 := eq_true q623
                         have p624 : 0 ≤ (x214_4 : Int) := of_decide_eq_true kM
                         have q624 : x214_4 < (t580.length : Int) := of_decide_eq_true kM
                         obtain ⟨ad624, e624, hx624_0, hx624_1⟩ := at_T40 (Kd.R_reads' HO_3.out).2.2 x214_4 p624 q624
                         cases e624
                         replace p624 := eq_true p624
                         replace q624 := eq_true q624
                         go_wp2
                         repeat (go_quiet (fail); try go_wp2)
                         go_ret
                         exact ⟨by first | rfl | (simp [errW_none, errW_some] <;> rfl) | (simp [*, errW_none, errW_some] <;> rfl), kB HB⟩
                       ·rw [if_neg c100] at H
                        exact absurd H (by simp)
                      ·rw [if_neg c99] at H
                       exact absurd H (by simp)
                     ·rw [if_neg c98] at H
                      exact absurd H (by simp)
                    ·rw [if_neg c97] at H
                     exact absurd H (by simp)
                   ·rw [if_neg c96] at H
                    have c96b0 : decide (x227_5 < (t619.length : Int)) = false := decide_eq_false c96
                    clear c96
                    have H' := am H
                    clear H
                    go_wp2
                    repeat (go_quiet (fail); try go_wp2)
                    go_roundg k5
                    case measure => have := HJ16.out; have := HJ70.out; have := HJ83.out; have := HK4.out; have := HK5.out; omega
                    case rel => exact ⟨(wrap64 (x214_4 + 1)), (by first | rfl | (simp; done) | (simp [*]; done)), H', ⟨by have := HJ16.out; have := HJ70.out; have := HJ83.out; have := HK4.out; have := HK5.out; omega⟩, ⟨kR HO_3⟩, ⟨by (with_reducible repeat (first | apply Kd.R_alloc | apply Kd.R_drewN | apply Kd.R_drew)); exact Kd.R_mono HO_4.out (fun _ hk => trivial)⟩, ⟨kB HB⟩⟩
                ·rw [if_neg c93] at H
                 have c93b0 : (t620 == 0) = false := beq_eq_false_iff_ne.mpr c93
                 have c93b1 : (t620 != 0) = true := bne_iff_ne.mpr c93
                 obtain rfl := Option.some.inj H
                 go_wp2_with (first | (go_at_call 23; (with_reducible refine (impl_WaitsOf.calls k4 _ _ t583 x214_4 t619 t620 _ ?side1 ?side2 A92.out).mono ?_); (case side1 => exact kC (Kd.R_reads' HO_4.out).2.2); (case side2 => exact (Kd.R_reads' HO_4.out).2.1); rintro e w102 ⟨v621, rfl, ho0, hb⟩; have n0_ := am (Kd.R_below (kR HO_3) hb); have n1_ := am (Kd.R_elder' (kR HO_4) (Kd.R_base ho0) hb); have n2_ := am (Kd.R_lower (Kd.R_new' ho0 (Kd.R_lt (kR HO_4))) (below_size (kB HB))); have n3_ := am (below_step (kB HB) hb); clear HO_3 HO_4 HB; have HO_3 := n0_; have HO_4 := n1_; have HO622 := n2_; have HB := n3_; clear n0_ n1_ n2_ n3_; (try clear hb); (try clear hb2); (try clear hk); (try clear hi); (try clear ho0)))
                 repeat (go_quiet (first | (go_at_call 23; (try simp only [i64_w]); (with_reducible refine (impl_WaitsOf.calls k4 _ _ t583 x214_4 t619 t620 _ ?side1 ?side2 A92.out).mono ?_); (case side1 => exact kC (Kd.R_reads' HO_4.out).2.2); (case side2 => exact (Kd.R_reads' HO_4.out).2.1); rintro e w102 ⟨v621, rfl, ho0, hb⟩; have n0_ := am (Kd.R_below (kR HO_3) hb); have n1_ := am (Kd.R_elder' (kR HO_4) (Kd.R_base ho0) hb); have n2_ := am (Kd.R_lower (Kd.R_new' ho0 (Kd.R_lt (kR HO_4))) (below_size (kB HB))); have n3_ := am (below_step (kB HB) hb); clear HO_3 HO_4 HB; have HO_3 := n0_; have HO_4 := n1_; have HO622 := n2_; have HB := n3_; clear n0_ n1_ n2_ n3_; (try clear hb); (try clear hb2); (try clear hk); (try clear hi); (try clear ho0))); try go_wp2_with (first | (go_at_call 23; (try simp only [i64_w]); (with_reducible refine (impl_WaitsOf.calls k4 _ _ t583 x214_4 t619 t620 _ ?side1 ?side2 A92.out).mono ?_); (case side1 => exact kC (Kd.R_reads' HO_4.out).2.2); (case side2 => exact (Kd.R_reads' HO_4.out).2.1); rintro e w102 ⟨v621, rfl, ho0, hb⟩; have n0_ := am (Kd.R_below (kR HO_3) hb); have n1_ := am (Kd.R_elder' (kR HO_4) (Kd.R_base ho0) hb); have n2_ := am (Kd.R_lower (Kd.R_new' ho0 (Kd.R_lt (kR HO_4))) (below_size (kB HB))); have n3_ := am (below_step (kB HB) hb); clear HO_3 HO_4 HB; have HO_3 := n0_; have HO_4 := n1_; have HO622 := n2_; have HB := n3_; clear n0_ n1_ n2_ n3_; (try clear hb); (try clear hb2); (try clear hk); (try clear hi); (try clear ho0))))
                 go_ret
                 exact ⟨by first | rfl | (simp [errW_none, errW_some] <;> rfl) | (simp [*, errW_none, errW_some] <;> rfl), kB HB⟩
               ·rw [if_neg c91] at H
                have c91b0 : decide (x214_4 < (t580.length : Int)) = false := decide_eq_false c91
                clear c91
                have H' := am H
                clear H
                go_wp2
                repeat (go_quiet (fail); try go_wp2)
                go_meet
                case rel => exact ⟨_, H', ⟨by have := HJ16.out; have := HJ70.out; have := HJ83.out; have := HK4.out; first | omega | exact Nat.le_refl _⟩, ⟨kB HB⟩⟩
         ·rw [if_neg c82] at H
          have c82b0 : (t584 == 0) = false := beq_eq_false_iff_ne.mpr c82
          have c82b1 : (t584 != 0) = true := bne_iff_ne.mpr c82
          (first | rw [c82b0] | (simp only [i64_w, i32_w]; rw [c82b0]) | skip)
          have H' := am H
          clear H
          go_wp2
          repeat (go_quiet (fail); try go_wp2)
          go_meet
          case rel => exact ⟨_, H', ⟨by have := HJ16.out; have := HJ70.out; first | omega | exact Nat.le_refl _⟩, ⟨kB HB⟩⟩
        case rest => as_aux_lemma =>
         clear HC81
         try clear c3
         try clear c70
         try clear c80
         obtain ⟨kq, HA, HJ80, HB⟩ := hcut
         cases kq with
         | zero => exact absurd HA.out (by simp [laws_FnClasses.j5])
         | succ kj80 =>
          have H := HA.out
          clear HA
          simp only [laws_FnClasses.j5] at H
          replace H := Option.bind_eq_some_iff.mp H
          obtain ⟨⟨t625, t626⟩, A1030, H⟩ := H
          try dsimp only at H
          have A103 := am A1030
          clear A1030
          replace H := Option.bind_eq_some_iff.mp H
          obtain ⟨⟨t629, t630⟩, A1040, H⟩ := H
          try dsimp only at H
          have A104 := am A1040
          clear A1040
          replace H := Option.bind_eq_some_iff.mp H
          obtain ⟨⟨t633, t634⟩, A1050, H⟩ := H
          try dsimp only at H
          have A105 := am A1050
          clear A1050
          have HC106 := am H
          clear H
          go_upto_region 40 with (first | (go_at_call 24; (with_reducible refine (spec_DrawClassesOfTurns.calls kj80 _ _ l0 t625 t626 _ ?side1 ?side2 A103.out).mono ?_); (case side1 => exact kC (Kd.C_below HR0.out HB.out)); (case side2 => exact HC0.out); rintro e w107 ⟨v627, rfl, ho0, hb⟩; have n0_ := am (Kd.R_lower ho0 (below_size (kB HB))); have n1_ := am (below_step (kB HB) hb); clear HB; have HO628 := n0_; have HB := n1_; clear n0_ n1_; (try clear hb); (try clear hb2); (try clear hk); (try clear hi); (try clear ho0); obtain ⟨Ao108, co108, eo108⟩ := Kd.R_slice HO628.out; subst eo108) | (go_at_call 21; (with_reducible refine (impl_ClassesOfTurns.calls kj80 _ _ t625 t626 t629 t630 _ ?side1 ?side2 A104.out).mono ?_); (case side1 => exact kC (Kd.R_reads' HO628.out).2.2); (case side2 => exact (Kd.R_reads' HO628.out).2.1); rintro e w109 ⟨v631, rfl, ho0, hb⟩; have n0_ := am (Kd.R_below (kR HO628) hb); have n1_ := am (Kd.R_lower ho0 (below_size (kB HB))); have n2_ := am (below_step (kB HB) hb); clear HO628 HB; have HO628 := n0_; have HO632 := n1_; have HB := n2_; clear n0_ n1_ n2_; (try clear hb); (try clear hb2); (try clear hk); (try clear hi); (try clear ho0)) | (go_at_call 25; (with_reducible refine (spec_ClassesOfTurns.calls kj80 _ _ t625 t626 t633 t634 _ ?side1 ?side2 A105.out).mono ?_); (case side1 => exact kC (Kd.R_reads' HO628.out).2.2); (case side2 => exact (Kd.R_reads' HO628.out).2.1); rintro e w110 ⟨v635, rfl, ho0, hb⟩; have n0_ := am (Kd.R_below (kR HO628) hb); have n1_ := am (Kd.R_elder' (kR HO632) (Kd.R_base ho0) hb); have n2_ := am (Kd.R_lower (Kd.R_new' ho0 (Kd.R_lt (kR HO632))) (below_size (kB HB))); have n3_ := am (below_step (kB HB) hb); clear HO628 HO632 HB; have HO628 := n0_; have HO632 := n1_; have HO636 := n2_; have HB := n3_; clear n0_ n1_ n2_ n3_; (try clear hb); (try clear hb2); (try clear hk); (try clear hi); (try clear ho0)))
          repeat (go_quiet (first | (go_at_call 24; (try simp only [i64_w]); (with_reducible refine (spec_DrawClassesOfTurns.calls kj80 _ _ l0 t625 t626 _ ?side1 ?side2 A103.out).mono ?_); (case side1 => exact kC (Kd.C_below HR0.out HB.out)); (case side2 => exact HC0.out); rintro e w107 ⟨v627, rfl, ho0, hb⟩; have n0_ := am (Kd.R_lower ho0 (below_size (kB HB))); have n1_ := am (below_step (kB HB) hb); clear HB; have HO628 := n0_; have HB := n1_; clear n0_ n1_; (try clear hb); (try clear hb2); (try clear hk); (try clear hi); (try clear ho0); obtain ⟨Ao108, co108, eo108⟩ := Kd.R_slice HO628.out; subst eo108) | (go_at_call 21; (try simp only [i64_w]); (with_reducible refine (impl_ClassesOfTurns.calls kj80 _ _ t625 t626 t629 t630 _ ?side1 ?side2 A104.out).mono ?_); (case side1 => exact kC (Kd.R_reads' HO628.out).2.2); (case side2 => exact (Kd.R_reads' HO628.out).2.1); rintro e w109 ⟨v631, rfl, ho0, hb⟩; have n0_ := am (Kd.R_below (kR HO628) hb); have n1_ := am (Kd.R_lower ho0 (below_size (kB HB))); have n2_ := am (below_step (kB HB) hb); clear HO628 HB; have HO628 := n0_; have HO632 := n1_; have HB := n2_; clear n0_ n1_ n2_; (try clear hb); (try clear hb2); (try clear hk); (try clear hi); (try clear ho0)) | (go_at_call 25; (try simp only [i64_w]); (with_reducible refine (spec_ClassesOfTurns.calls kj80 _ _ t625 t626 t633 t634 _ ?side1 ?side2 A105.out).mono ?_); (case side1 => exact kC (Kd.R_reads' HO628.out).2.2); (case side2 => exact (Kd.R_reads' HO628.out).2.1); rintro e w110 ⟨v635, rfl, ho0, hb⟩; have n0_ := am (Kd.R_below (kR HO628) hb); have n1_ := am (Kd.R_elder' (kR HO632) (Kd.R_base ho0) hb); have n2_ := am (Kd.R_lower (Kd.R_new' ho0 (Kd.R_lt (kR HO632))) (below_size (kB HB))); have n3_ := am (below_step (kB HB) hb); clear HO628 HO632 HB; have HO628 := n0_; have HO632 := n1_; have HO636 := n2_; have HB := n3_; clear n0_ n1_ n2_ n3_; (try clear hb); (try clear hb2); (try clear hk); (try clear hi); (try clear ho0))); go_upto_region 40 with (first | (go_at_call 24; (try simp only [i64_w]); (with_reducible refine (spec_DrawClassesOfTurns.calls kj80 _ _ l0 t625 t626 _ ?side1 ?side2 A103.out).mono ?_); (case side1 => exact kC (Kd.C_below HR0.out HB.out)); (case side2 => exact HC0.out); rintro e w107 ⟨v627, rfl, ho0, hb⟩; have n0_ := am (Kd.R_lower ho0 (below_size (kB HB))); have n1_ := am (below_step (kB HB) hb); clear HB; have HO628 := n0_; have HB := n1_; clear n0_ n1_; (try clear hb); (try clear hb2); (try clear hk); (try clear hi); (try clear ho0); obtain ⟨Ao108, co108, eo108⟩ := Kd.R_slice HO628.out; subst eo108) | (go_at_call 21; (try simp only [i64_w]); (with_reducible refine (impl_ClassesOfTurns.calls kj80 _ _ t625 t626 t629 t630 _ ?side1 ?side2 A104.out).mono ?_); (case side1 => exact kC (Kd.R_reads' HO628.out).2.2); (case side2 => exact (Kd.R_reads' HO628.out).2.1); rintro e w109 ⟨v631, rfl, ho0, hb⟩; have n0_ := am (Kd.R_below (kR HO628) hb); have n1_ := am (Kd.R_lower ho0 (below_size (kB HB))); have n2_ := am (below_step (kB HB) hb); clear HO628 HB; have HO628 := n0_; have HO632 := n1_; have HB := n2_; clear n0_ n1_ n2_; (try clear hb); (try clear hb2); (try clear hk); (try clear hi); (try clear ho0)) | (go_at_call 25; (try simp only [i64_w]); (with_reducible refine (spec_ClassesOfTurns.calls kj80 _ _ t625 t626 t633 t634 _ ?side1 ?side2 A105.out).mono ?_); (case side1 => exact kC (Kd.R_reads' HO628.out).2.2); (case side2 => exact (Kd.R_reads' HO628.out).2.1); rintro e w110 ⟨v635, rfl, ho0, hb⟩; have n0_ := am (Kd.R_below (kR HO628) hb); have n1_ := am (Kd.R_elder' (kR HO632) (Kd.R_base ho0) hb); have n2_ := am (Kd.R_lower (Kd.R_new' ho0 (Kd.R_lt (kR HO632))) (below_size (kB HB))); have n3_ := am (below_step (kB HB) hb); clear HO628 HO632 HB; have HO628 := n0_; have HO632 := n1_; have HO636 := n2_; have HB := n3_; clear n0_ n1_ n2_ n3_; (try clear hb); (try clear hb2); (try clear hk); (try clear hi); (try clear ho0))))
          (try simp only [Act.put, List.setIfInBounds_toArray, List.set_cons_zero, List.set_cons_succ])
          go_cut [267] (fun v267 wc => ∃ (kq : Nat) (x267_105 : Bool), v267 = .bool x267_105 ∧ Aside0 (laws_FnClasses.j6 kq t629 t630 x267_105 = some r) ∧ Aside0 (kq ≤ kj80) ∧ Aside0 (Kd.R k40 40 wc w.heap.size (fun _ => True) v631 t629) ∧ Aside0 (Below w.heap.size w wc))
          case first => as_aux_lemma =>
           have H := HC106.out
           clear HC106
           by_cases c111 : t630 = t634
           ·rw [if_pos c111] at H
            have c111b0 : (t630 == t634) = true := beq_iff_eq.mpr c111
            have c111b1 : (t630 != t634) = false := bne_eq_false_iff_eq.mpr c111
            clear c111
            (first | rw [c111b0] | (simp only [i64_w, i32_w]; rw [c111b0]) | skip)
            replace H := Option.bind_eq_some_iff.mp H
            obtain ⟨t637, A1120, H⟩ := H
            try dsimp only at H
            have A112 := am A1120
            clear A1120
            have H' := am H
            clear H
            obtain ⟨Ao113, co113, eo113⟩ := Kd.R_slice HO632.out
            subst eo113
            obtain ⟨Ao114, co114, eo114⟩ := Kd.R_slice HO636.out
            subst eo114
            go_wp2_with (first | (go_at_call 22; (with_reducible refine (laws_classes5.calls kj80 _ _ t629 _ _ t633 t637 _ ?side1 ?side2 ?side3 ?side4 A112.out).mono ?_); (case side1 => exact kC (Kd.R_reads' HO632.out).2.2); (case side2 => exact (Kd.R_reads' HO632.out).2.1); (case side3 => exact kC (Kd.R_reads' HO636.out).2.2); (case side4 => exact (Kd.R_reads' HO636.out).2.1); rintro e w' ⟨rfl, ⟨nd, rfl⟩⟩; (try first | exact ⟨rfl, _, World.drewN_drewN _ _ _⟩ | exact ⟨rfl, _, Eq.trans (World.drewN_drewN _ _ _) (congrArg (World.drewN _) (Nat.add_assoc _ _ _))⟩)))
            repeat (go_quiet (first | (go_at_call 22; (try simp only [i64_w]); (with_reducible refine (laws_classes5.calls kj80 _ _ t629 _ _ t633 t637 _ ?side1 ?side2 ?side3 ?side4 A112.out).mono ?_); (case side1 => exact kC (Kd.R_reads' HO632.out).2.2); (case side2 => exact (Kd.R_reads' HO632.out).2.1); (case side3 => exact kC (Kd.R_reads' HO636.out).2.2); (case side4 => exact (Kd.R_reads' HO636.out).2.1); rintro e w' ⟨rfl, ⟨nd, rfl⟩⟩; (try first | exact ⟨rfl, _, World.drewN_drewN _ _ _⟩ | exact ⟨rfl, _, Eq.trans (World.drewN_drewN _ _ _) (congrArg (World.drewN _) (Nat.add_assoc _ _ _))⟩))); try go_wp2_with (first | (go_at_call 22; (try simp only [i64_w]); (with_reducible refine (laws_classes5.calls kj80 _ _ t629 _ _ t633 t637 _ ?side1 ?side2 ?side3 ?side4 A112.out).mono ?_); (case side1 => exact kC (Kd.R_reads' HO632.out).2.2); (case side2 => exact (Kd.R_reads' HO632.out).2.1); (case side3 => exact kC (Kd.R_reads' HO636.out).2.2); (case side4 => exact (Kd.R_reads' HO636.out).2.1); rintro e w' ⟨rfl, ⟨nd, rfl⟩⟩; (try first | exact ⟨rfl, _, World.drewN_drewN _ _ _⟩ | exact ⟨rfl, _, Eq.trans (World.drewN_drewN _ _ _) (congrArg (World.drewN _) (Nat.add_assoc _ _ _))⟩))))
            go_meet
            case rel => exact ⟨_, (!t637), (by first | rfl | (simp; done) | (simp [*]; done)), H', ⟨by have := HJ16.out; have := HJ70.out; have := HJ80.out; first | omega | exact Nat.le_refl _⟩, ⟨by (with_reducible repeat (first | apply Kd.R_alloc | apply Kd.R_drewN | apply Kd.R_drew)); exact Kd.R_mono HO632.out (fun _ hk => trivial)⟩, ⟨kB HB⟩⟩
           ·rw [if_neg c111] at H
            exact absurd H (by simp)
          case rest => as_aux_lemma =>
           clear HC106
           try clear c3
           try clear c70
           try clear c80
           obtain ⟨kq, x267_105, rfl, HA, HJ105, HO_36, HB⟩ := hcut
           cases kq with
           | zero => exact absurd HA.out (by simp [laws_FnClasses.j6])
           | succ kj105 =>
            have H := HA.out
            clear HA
            simp only [laws_FnClasses.j6] at H
            by_cases c115 : x267_105 = true
            ·subst c115
             rw [if_pos rfl] at H
             obtain rfl := Option.some.inj H
             go_wp2
             repeat (go_quiet (fail); try go_wp2)
             go_ret
             exact ⟨by first | rfl | (simp [errW_none, errW_some] <;> rfl) | (simp [*, errW_none, errW_some] <;> rfl), kB HB⟩
            ·replace c115 := Bool.eq_false_iff.mpr c115
             subst c115
             rw [if_neg (show ¬ (false = true) by decide)] at H
             by_cases c116 : t630 = 0
             ·rw [if_pos c116] at H
              have c116b0 : (t630 == 0) = true := beq_iff_eq.mpr c116
              have c116b1 : (t630 != 0) = false := bne_eq_false_iff_eq.mpr c116
              clear c116
              replace H := Option.bind_eq_some_iff.mp H
              obtain ⟨⟨t638, t639⟩, A1170, H⟩ := H
              try dsimp only at H
              have A117 := am A1170
              clear A1170
              by_cases c118 : t639 = 0
              ·rw [if_pos c118] at H
               have c118b0 : (t639 == 0) = true := beq_iff_eq.mpr c118
               have c118b1 : (t639 != 0) = false := bne_eq_false_iff_eq.mpr c118
               clear c118
               obtain rfl := Option.some.inj H
               obtain ⟨Ao119, co119, eo119⟩ := Kd.R_slice HO_36.out
               subst eo119
               go_wp2_with (first | (go_at_call 8; (with_reducible refine (impl_AreApart.calls kj105 _ _ t629 t638 t639 _ ?side1 ?side2 A117.out).mono ?_); (case side1 => exact kC (Kd.R_reads' HO_36.out).2.2); (case side2 => exact (Kd.R_reads' HO_36.out).2.1); rintro e w120 ⟨rfl, hb⟩; have n0_ := am (Kd.R_below (kR HO_36) hb); have n1_ := am (below_step (kB HB) hb); clear HO_36 HB; have HO_36 := n0_; have HB := n1_; clear n0_ n1_; (try clear hb); (try clear hb2); (try clear hk); (try clear hi)))
               repeat (go_quiet (first | (go_at_call 8; (try simp only [i64_w]); (with_reducible refine (impl_AreApart.calls kj105 _ _ t629 t638 t639 _ ?side1 ?side2 A117.out).mono ?_); (case side1 => exact kC (Kd.R_reads' HO_36.out).2.2); (case side2 => exact (Kd.R_reads' HO_36.out).2.1); rintro e w120 ⟨rfl, hb⟩; have n0_ := am (Kd.R_below (kR HO_36) hb); have n1_ := am (below_step (kB HB) hb); clear HO_36 HB; have HO_36 := n0_; have HB := n1_; clear n0_ n1_; (try clear hb); (try clear hb2); (try clear hk); (try clear hi))); try go_wp2_with (first | (go_at_call 8; (try simp only [i64_w]); (with_reducible refine (impl_AreApart.calls kj105 _ _ t629 t638 t639 _ ?side1 ?side2 A117.out).mono ?_); (case side1 => exact kC (Kd.R_reads' HO_36.out).2.2); (case side2 => exact (Kd.R_reads' HO_36.out).2.1); rintro e w120 ⟨rfl, hb⟩; have n0_ := am (Kd.R_below (kR HO_36) hb); have n1_ := am (below_step (kB HB) hb); clear HO_36 HB; have HO_36 := n0_; have HB := n1_; clear n0_ n1_; (try clear hb); (try clear hb2); (try clear hk); (try clear hi))))
               go_ret
               exact ⟨by first | rfl | (simp [errW_none, errW_some] <;> rfl) | (simp [*, errW_none, errW_some] <;> rfl), kB HB⟩
              ·rw [if_neg c118] at H
               have c118b0 : (t639 == 0) = false := beq_eq_false_iff_ne.mpr c118
               have c118b1 : (t639 != 0) = true := bne_iff_ne.mpr c118
               obtain rfl := Option.some.inj H
               obtain ⟨Ao121, co121, eo121⟩ := Kd.R_slice HO_36.out
               subst eo121
               go_wp2_with (first | (go_at_call 8; (with_reducible refine (impl_AreApart.calls kj105 _ _ t629 t638 t639 _ ?side1 ?side2 A117.out).mono ?_); (case side1 => exact kC (Kd.R_reads' HO_36.out).2.2); (case side2 => exact (Kd.R_reads' HO_36.out).2.1); rintro e w122 ⟨rfl, hb⟩; have n0_ := am (Kd.R_below (kR HO_36) hb); have n1_ := am (below_step (kB HB) hb); clear HO_36 HB; have HO_36 := n0_; have HB := n1_; clear n0_ n1_; (try clear hb); (try clear hb2); (try clear hk); (try clear hi)))
               repeat (go_quiet (first | (go_at_call 8; (try simp only [i64_w]); (with_reducible refine (impl_AreApart.calls kj105 _ _ t629 t638 t639 _ ?side1 ?side2 A117.out).mono ?_); (case side1 => exact kC (Kd.R_reads' HO_36.out).2.2); (case side2 => exact (Kd.R_reads' HO_36.out).2.1); rintro e w122 ⟨rfl, hb⟩; have n0_ := am (Kd.R_below (kR HO_36) hb); have n1_ := am (below_step (kB HB) hb); clear HO_36 HB; have HO_36 := n0_; have HB := n1_; clear n0_ n1_; (try clear hb); (try clear hb2); (try clear hk); (try clear hi))); try go_wp2_with (first | (go_at_call 8; (try simp only [i64_w]); (with_reducible refine (impl_AreApart.calls kj105 _ _ t629 t638 t639 _ ?side1 ?side2 A117.out).mono ?_); (case side1 => exact kC (Kd.R_reads' HO_36.out).2.2); (case side2 => exact (Kd.R_reads' HO_36.out).2.1); rintro e w122 ⟨rfl, hb⟩; have n0_ := am (Kd.R_below (kR HO_36) hb); have n1_ := am (below_step (kB HB) hb); clear HO_36 HB; have HO_36 := n0_; have HB := n1_; clear n0_ n1_; (try clear hb); (try clear hb2); (try clear hk); (try clear hi))))
               go_ret
               exact ⟨by first | rfl | (simp [errW_none, errW_some] <;> rfl) | (simp [*, errW_none, errW_some] <;> rfl), kB HB⟩
             ·rw [if_neg c116] at H
              have c116b0 : (t630 == 0) = false := beq_eq_false_iff_ne.mpr c116
              have c116b1 : (t630 != 0) = true := bne_iff_ne.mpr c116
              obtain rfl := Option.some.inj H
              go_wp2
              repeat (go_quiet (fail); try go_wp2)
              go_ret
              exact ⟨by first | rfl | (simp [errW_none, errW_some] <;> rfl) | (simp [*, errW_none, errW_some] <;> rfl), kB HB⟩
/-- THE ONE PURE STATEMENT of laws_FnClasses: yours. -/
def laws_FnClasses.Pure : Prop := ∀ (l0 : List Int), l0.length ≤ maxLen → l0.length * 1 ≤ 140737488351232 → (∀ x ∈ l0, (Lit.int .u8 x).wf = true) → ∃ k, laws_FnClasses.f k l0 = some true
theorem laws_FnClasses.walk (P : laws_FnClasses.Pure) (a0 : Option Addr) (len0 cap0 : Nat) (z0 : List Int) (w : World) (w0 : (a0 = none ∧ len0 = 0 ∧ cap0 = 0 ∧ z0 = []) ∨ ∃ x, a0 = some x ∧ len0 ≤ cap0 ∧ cap0 ≤ maxLen ∧ z0.length = cap0 ∧ (∀ i, i < z0.length → w.cell? (x.add i) = some (.int .u8 (z0.getD i 0))) ∧ ∀ n ∈ z0, (Lit.int .u8 n).wf = true) (y0 : len0 * 1 ≤ 140737488351232) :
  Calls Try.prog 3 #[.slice a0 len0 cap0] w fun e w' => e = .returned (.bool true) ∧ Below w.heap.size w w' := by
 obtain ⟨l0, rfl, hr0, hm0, hw0, hc0⟩ := ReadsInt.ofRowC w0
 obtain ⟨k, h⟩ := P l0 hm0 y0 hw0
 refine (laws_FnClasses.calls k _ _ l0 true w (Kd.C_of_reads (d := (0 : Int)) (h1 := fun _ => rfl) hr0) hc0 h).mono ?_
 rintro e w' ⟨rfl, hd⟩
 exact ⟨rfl, hd⟩
end Go.Proofs.Ytdkhecebffjpjaa.X
