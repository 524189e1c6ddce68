/- A part of the walk of FnStrokesHeardOfAll: which Lean function each Go function comes to, and that the machine's call does so. Written by a program of this repo (wip/gen/xprint.py). -/
import Derived.Test.YthdcdpilcfghlaaPFnStrokesHeardOfAllx0
import Derived.Test.YthdcdpilcfghlaaPFnStrokesHeardOfAllx2
import Derived.Test.YthdcdpilcfghlaaPFnStrokesHeardOfAllx4
import Derived.Test.YthdcdpilcfghlaaPFnStrokesHeardOfAllx6
import Derived.Test.YthdcdpilcfghlaaPFnStrokesHeardOfAllx7
import Derived.Test.YthdcdpilcfghlaaPFnStrokesHeardOfAllx8
import Derived.Test.YthdcdpilcfghlaaPFnStrokesHeardOfAllx9
import Derived.Test.YthdcdpilcfghlaaPFnStrokesHeardOfAllx10
namespace Go.Proofs.Ythdcdpilcfghlaa.PFnStrokesHeardOfAll
open Go.RowKit Go.Proofs.YthdcdpilcfghlaaW.PrintWords Go.Proofs.YthdcdpilcfghlaaW.PrintLast Go.Proofs.YthdcdpilcfghlaaW.PrintMore
attribute [local go_sem] max2_int min2_int max_two min_two max_three min_three max_four min_four   -- for this text's walks alone
set_option linter.unusedVariables false
set_option linter.unusedSimpArgs false

/-! ### laws_FnStrokesHeardOfAll: function 3 -/
mutual
def laws_FnStrokesHeardOfAll.j0 : Nat → Int → List Int → Int → Int → Int → List Int → Bool → Bool → List Int → Bool → Option (Bool)
  | 0, _, _, _, _, _, _, _, _, _, _ => none
  | k + 1, x0, x1, x2, x3, x4, x11, x12, x15, x19, x130 => if x130 = true then (some false) else (if x12 = true then (if (x15 != (decide ((x11.length : Int) > 0))) = true then (laws_FnStrokesHeardOfAll.j1 k x0 x1 x2 x3 x4 x11 x19 true) else (laws_FnStrokesHeardOfAll.j1 k x0 x1 x2 x3 x4 x11 x19 (x15 != (decide ((x19.length : Int) > 0))))) else (laws_FnStrokesHeardOfAll.j6 k x2 x3 x4))
def laws_FnStrokesHeardOfAll.j6 : Nat → Int → Int → Int → Option (Bool)
  | 0, _, _, _ => none
  | k + 1, x2, x3, x4 => (impl_KnownAfter.f k x2 x3).bind fun bt330 => ((spec_KnownAfter.f k x2 x3).bind fun bt332 => ((impl_LongestUnknown.f k x4).bind fun bt334 => ((spec_LongestUnknown.f k x4).bind fun bt339 => (if (bt330.2 != bt332.2) = true then (laws_FnStrokesHeardOfAll.j7 k x2 x3 x4 bt330.1 bt330.2 bt334.1 bt334.2.1 bt334.2.2 true) else (if bt330.1 = bt332.1 then (if (bt334.2.2 != bt339.2.2) = true then (laws_FnStrokesHeardOfAll.j7 k x2 x3 x4 bt330.1 bt330.2 bt334.1 bt334.2.1 bt334.2.2 true) else ((laws_kSame.f k bt334.1 bt339.1).bind fun t344 => (if t344 = true then (laws_FnStrokesHeardOfAll.j7 k x2 x3 x4 bt330.1 bt330.2 bt334.1 bt334.2.1 bt334.2.2 (bt334.2.1 != bt339.2.1)) else (laws_FnStrokesHeardOfAll.j7 k x2 x3 x4 bt330.1 bt330.2 bt334.1 bt334.2.1 bt334.2.2 true)))) else (laws_FnStrokesHeardOfAll.j7 k x2 x3 x4 bt330.1 bt330.2 bt334.1 bt334.2.1 bt334.2.2 true))))))
def laws_FnStrokesHeardOfAll.j7 : Nat → Int → Int → Int → Int → Bool → List Int → Int → Bool → Bool → Option (Bool)
  | 0, _, _, _, _, _, _, _, _, _ => none
  | k + 1, x2, x3, x4, x33, x34, x37, x38, x39, x263 => if x263 = true then (some false) else (if x34 = true then ((impl_HeardFrom.f k x2 x3 x33).bind fun bt345 => ((impl_HalvesOfHeard.f k x2 bt345.1).bind fun bt349 => (if bt345.2 = true then (if bt349.2 = true then (if (bt349.1.length : Int) = 1 then (if 0 < (bt349.1.length : Int) then (laws_FnStrokesHeardOfAll.j8 k x2 x4 x33 x37 x38 x39 bt345.1 ((rd bt349.1 0) != x3)) else (none)) else (laws_FnStrokesHeardOfAll.j8 k x2 x4 x33 x37 x38 x39 bt345.1 true)) else (laws_FnStrokesHeardOfAll.j8 k x2 x4 x33 x37 x38 x39 bt345.1 true)) else (laws_FnStrokesHeardOfAll.j8 k x2 x4 x33 x37 x38 x39 bt345.1 true)))) else (laws_FnStrokesHeardOfAll.j9 k x4 x37 x38 x39))
def laws_FnStrokesHeardOfAll.j9 : Nat → Int → List Int → Int → Bool → Option (Bool)
  | 0, _, _, _, _ => none
  | k + 1, x4, x37, x38, x39 => if x39 = true then (laws_FnStrokesHeardOfAll.l3 k x4 x37 x38 0) else (some true)
def laws_FnStrokesHeardOfAll.l3 : Nat → Int → List Int → Int → Int → Option (Bool)
  | 0, _, _, _, _ => none
  | k + 1, x4, x37, x38, x49 => if x49 < (wrap64 (2 * x4)) then ((impl_KnownAfter.f k x4 x49).bind fun bt362 => (if bt362.2 = true then (if bt362.1 > x38 then (some false) else ((laws_kHas.f k x37 x49).bind fun t364 => (if ((bt362.1 == x38) != t364) = true then (some false) else (laws_FnStrokesHeardOfAll.l3 k x4 x37 x38 (wrap64 (x49 + 1)))))) else (some false))) else (some true)
def laws_FnStrokesHeardOfAll.j8 : Nat → Int → Int → Int → List Int → Int → Bool → List Int → Bool → Option (Bool)
  | 0, _, _, _, _, _, _, _, _ => none
  | k + 1, x2, x4, x33, x37, x38, x39, x43, x295 => if x295 = true then (some false) else (if x33 > 1 then (if 0 ≤ (wrap64 (x33 - 1)) then (if (wrap64 (x33 - 1)) ≤ (x43.length : Int) then ((impl_HalvesOfHeard.f k x2 (x43.take ((wrap64 (x33 - 1)) : Int).toNat)).bind fun bt358 => (if bt358.2 = true then (if (bt358.1.length : Int) < 2 then (some false) else (laws_FnStrokesHeardOfAll.j9 k x4 x37 x38 x39)) else (some false))) else (none)) else (none)) else (laws_FnStrokesHeardOfAll.j9 k x4 x37 x38 x39))
def laws_FnStrokesHeardOfAll.j1 : Nat → Int → List Int → Int → Int → Int → List Int → List Int → Bool → Option (Bool)
  | 0, _, _, _, _, _, _, _, _ => none
  | k + 1, x0, x1, x2, x3, x4, x11, x19, x143 => if x143 = true then (some false) else (laws_FnStrokesHeardOfAll.l0 k x0 x1 x2 x3 x4 x11 x19 0)
def laws_FnStrokesHeardOfAll.l0 : Nat → Int → List Int → Int → Int → Int → List Int → List Int → Int → Option (Bool)
  | 0, _, _, _, _, _, _, _, _ => none
  | k + 1, x0, x1, x2, x3, x4, x11, x19, x23 => if x23 < (wrap64 (2 * x0)) then ((impl_HeardFrom.f k x0 x23 (x1.length : Int)).bind fun bt308 => (if bt308.2 = true then ((laws_kHas.f k x11 x23).bind fun t312 => ((laws_kSame.f k bt308.1 x1).bind fun t313 => (if (t312 != t313) = true then (some false) else (laws_FnStrokesHeardOfAll.l0 k x0 x1 x2 x3 x4 x11 x19 (wrap64 (x23 + 1)))))) else (some false))) else (if (x1.length : Int) < 60 then (laws_FnStrokesHeardOfAll.l1 k x0 x1 x2 x3 x4 x11 0 x19 (x19.length : Int) 0) else (laws_FnStrokesHeardOfAll.j6 k x2 x3 x4))
def laws_FnStrokesHeardOfAll.l1 : Nat → Int → List Int → Int → Int → Int → List Int → Int → List Int → Int → Int → Option (Bool)
  | 0, _, _, _, _, _, _, _, _, _, _ => none
  | k + 1, x0, x1, x2, x3, x4, x11, x26, x172, x173, x174 => if x174 < x173 then (if 0 ≤ x174 then (if x174 < (x172.length : Int) then ((some (([] : List Int) : List Int)).bind fun y315 => (if y315.length + x1.length < 17592186044416 then ((some (y315 ++ x1 : List Int)).bind fun y318 => (if y318.length < 17592186044416 then ((impl_HalvesOfHeard.f k x0 (y318 ++ [rd x172 x174])).bind fun bt324 => (if bt324.2 = true then (laws_FnStrokesHeardOfAll.j4 k x0 x1 x2 x3 x4 x11 x26 bt324.1 x172 x173 x174 (decide ((bt324.1.length : Int) < 1))) else (laws_FnStrokesHeardOfAll.j4 k x0 x1 x2 x3 x4 x11 x26 bt324.1 x172 x173 x174 true))) else (none))) else (none))) else (none)) else (none)) else (if x26 = (x11.length : Int) then (laws_FnStrokesHeardOfAll.j6 k x2 x3 x4) else (some false))
def laws_FnStrokesHeardOfAll.j4 : Nat → Int → List Int → Int → Int → Int → List Int → Int → List Int → List Int → Int → Int → Bool → Option (Bool)
  | 0, _, _, _, _, _, _, _, _, _, _, _, _ => none
  | k + 1, x0, x1, x2, x3, x4, x11, x26, x29, x172, x173, x174, x195 => if x195 = true then (some false) else (laws_FnStrokesHeardOfAll.l2 k x0 x1 x2 x3 x4 x11 x26 x29 x172 x173 x174 x29 (x29.length : Int) 0)
def laws_FnStrokesHeardOfAll.l2 : Nat → Int → List Int → Int → Int → Int → List Int → Int → List Int → List Int → Int → Int → List Int → Int → Int → Option (Bool)
  | 0, _, _, _, _, _, _, _, _, _, _, _, _, _, _ => none
  | k + 1, x0, x1, x2, x3, x4, x11, x26, x29, x172, x173, x174, x196, x197, x198 => if x198 < x197 then (if 0 ≤ x198 then (if x198 < (x196.length : Int) then ((laws_kHas.f k x11 (rd x196 x198)).bind fun t329 => (if t329 = true then (laws_FnStrokesHeardOfAll.l2 k x0 x1 x2 x3 x4 x11 x26 x29 x172 x173 x174 x196 x197 (wrap64 (x198 + 1))) else (some false))) else (none)) else (none)) else (laws_FnStrokesHeardOfAll.l1 k x0 x1 x2 x3 x4 x11 (wrap64 (x26 + (x29.length : Int))) x172 x173 (wrap64 (x174 + 1)))
end
def laws_FnStrokesHeardOfAll.f (k : Nat) (a0 : Int) (l1 : List Int) (a2 : Int) (a3 : Int) (a4 : Int) : Option (Bool) := if (l1.length : Int) > 10000 then (some true) else ((impl_HalvesOfHeard.f k a0 l1).bind fun bt286 => ((spec_HalvesOfHeard.f k a0 l1).bind fun bt290 => ((impl_IsHeard.f k a0 l1).bind fun bt294 => ((spec_IsHeard.f k a0 l1).bind fun bt296 => ((impl_NextHeard.f k a0 l1).bind fun bt298 => ((spec_NextHeard.f k a0 l1).bind fun bt302 => (if (bt286.2 != bt290.2) = true then (laws_FnStrokesHeardOfAll.j0 k a0 l1 a2 a3 a4 bt286.1 bt286.2 bt294.1 bt298.1 true) else ((laws_kSame.f k bt286.1 bt290.1).bind fun t306 => (if t306 = true then (if (bt294.2 != bt296.2) = true then (laws_FnStrokesHeardOfAll.j0 k a0 l1 a2 a3 a4 bt286.1 bt286.2 bt294.1 bt298.1 true) else (if (bt294.1 != bt296.1) = true then (laws_FnStrokesHeardOfAll.j0 k a0 l1 a2 a3 a4 bt286.1 bt286.2 bt294.1 bt298.1 true) else (if (bt298.2 != bt302.2) = true then (laws_FnStrokesHeardOfAll.j0 k a0 l1 a2 a3 a4 bt286.1 bt286.2 bt294.1 bt298.1 true) else ((laws_kSame.f k bt298.1 bt302.1).bind fun t307 => (if t307 = true then (if (bt294.2 != bt286.2) = true then (laws_FnStrokesHeardOfAll.j0 k a0 l1 a2 a3 a4 bt286.1 bt286.2 bt294.1 bt298.1 true) else (laws_FnStrokesHeardOfAll.j0 k a0 l1 a2 a3 a4 bt286.1 bt286.2 bt294.1 bt298.1 (bt298.2 != bt286.2))) else (laws_FnStrokesHeardOfAll.j0 k a0 l1 a2 a3 a4 bt286.1 bt286.2 bt294.1 bt298.1 true)))))) else (laws_FnStrokesHeardOfAll.j0 k a0 l1 a2 a3 a4 bt286.1 bt286.2 bt294.1 bt298.1 true))))))))))
theorem laws_FnStrokesHeardOfAll.mono_l : ∀ k, (∀ y0 y1 y2 y3 y4 y5 y6 y7 y8 y9, LeO (laws_FnStrokesHeardOfAll.j0 k y0 y1 y2 y3 y4 y5 y6 y7 y8 y9) (laws_FnStrokesHeardOfAll.j0 (k + 1) y0 y1 y2 y3 y4 y5 y6 y7 y8 y9)) ∧ (∀ y0 y1 y2, LeO (laws_FnStrokesHeardOfAll.j6 k y0 y1 y2) (laws_FnStrokesHeardOfAll.j6 (k + 1) y0 y1 y2)) ∧ (∀ y0 y1 y2 y3 y4 y5 y6 y7 y8, LeO (laws_FnStrokesHeardOfAll.j7 k y0 y1 y2 y3 y4 y5 y6 y7 y8) (laws_FnStrokesHeardOfAll.j7 (k + 1) y0 y1 y2 y3 y4 y5 y6 y7 y8)) ∧ (∀ y0 y1 y2 y3, LeO (laws_FnStrokesHeardOfAll.j9 k y0 y1 y2 y3) (laws_FnStrokesHeardOfAll.j9 (k + 1) y0 y1 y2 y3)) ∧ (∀ y0 y1 y2 y3, LeO (laws_FnStrokesHeardOfAll.l3 k y0 y1 y2 y3) (laws_FnStrokesHeardOfAll.l3 (k + 1) y0 y1 y2 y3)) ∧ (∀ y0 y1 y2 y3 y4 y5 y6 y7, LeO (laws_FnStrokesHeardOfAll.j8 k y0 y1 y2 y3 y4 y5 y6 y7) (laws_FnStrokesHeardOfAll.j8 (k + 1) y0 y1 y2 y3 y4 y5 y6 y7)) ∧ (∀ y0 y1 y2 y3 y4 y5 y6 y7, LeO (laws_FnStrokesHeardOfAll.j1 k y0 y1 y2 y3 y4 y5 y6 y7) (laws_FnStrokesHeardOfAll.j1 (k + 1) y0 y1 y2 y3 y4 y5 y6 y7)) ∧ (∀ y0 y1 y2 y3 y4 y5 y6 y7, LeO (laws_FnStrokesHeardOfAll.l0 k y0 y1 y2 y3 y4 y5 y6 y7) (laws_FnStrokesHeardOfAll.l0 (k + 1) y0 y1 y2 y3 y4 y5 y6 y7)) ∧ (∀ y0 y1 y2 y3 y4 y5 y6 y7 y8 y9, LeO (laws_FnStrokesHeardOfAll.l1 k y0 y1 y2 y3 y4 y5 y6 y7 y8 y9) (laws_FnStrokesHeardOfAll.l1 (k + 1) y0 y1 y2 y3 y4 y5 y6 y7 y8 y9)) ∧ (∀ y0 y1 y2 y3 y4 y5 y6 y7 y8 y9 y10 y11, LeO (laws_FnStrokesHeardOfAll.j4 k y0 y1 y2 y3 y4 y5 y6 y7 y8 y9 y10 y11) (laws_FnStrokesHeardOfAll.j4 (k + 1) y0 y1 y2 y3 y4 y5 y6 y7 y8 y9 y10 y11)) ∧ (∀ y0 y1 y2 y3 y4 y5 y6 y7 y8 y9 y10 y11 y12 y13, LeO (laws_FnStrokesHeardOfAll.l2 k y0 y1 y2 y3 y4 y5 y6 y7 y8 y9 y10 y11 y12 y13) (laws_FnStrokesHeardOfAll.l2 (k + 1) y0 y1 y2 y3 y4 y5 y6 y7 y8 y9 y10 y11 y12 y13))
  | 0 => ⟨fun _ _ _ _ _ _ _ _ _ _ r h => by simp [laws_FnStrokesHeardOfAll.j0] at h, fun _ _ _ r h => by simp [laws_FnStrokesHeardOfAll.j6] at h, fun _ _ _ _ _ _ _ _ _ r h => by simp [laws_FnStrokesHeardOfAll.j7] at h, fun _ _ _ _ r h => by simp [laws_FnStrokesHeardOfAll.j9] at h, fun _ _ _ _ r h => by simp [laws_FnStrokesHeardOfAll.l3] at h, fun _ _ _ _ _ _ _ _ r h => by simp [laws_FnStrokesHeardOfAll.j8] at h, fun _ _ _ _ _ _ _ _ r h => by simp [laws_FnStrokesHeardOfAll.j1] at h, fun _ _ _ _ _ _ _ _ r h => by simp [laws_FnStrokesHeardOfAll.l0] at h, fun _ _ _ _ _ _ _ _ _ _ r h => by simp [laws_FnStrokesHeardOfAll.l1] at h, fun _ _ _ _ _ _ _ _ _ _ _ _ r h => by simp [laws_FnStrokesHeardOfAll.j4] at h, fun _ _ _ _ _ _ _ _ _ _ _ _ _ _ r h => by simp [laws_FnStrokesHeardOfAll.l2] at h⟩
  | k + 1 => by
    obtain ⟨ih0, ih1, ih2, ih3, ih4, ih5, ih6, ih7, ih8, ih9, ih10⟩ := laws_FnStrokesHeardOfAll.mono_l k
    refine ⟨?_, ?_, ?_, ?_, ?_, ?_, ?_, ?_, ?_, ?_, ?_⟩
    · intro y0 y1 y2 y3 y4 y5 y6 y7 y8 y9
      unfold laws_FnStrokesHeardOfAll.j0
      repeat' first
      | (with_reducible exact ih0 _ _ _ _ _ _ _ _ _ _)
      | (with_reducible exact ih1 _ _ _)
      | (with_reducible exact ih2 _ _ _ _ _ _ _ _ _)
      | (with_reducible exact ih3 _ _ _ _)
      | (with_reducible exact ih4 _ _ _ _)
      | (with_reducible exact ih5 _ _ _ _ _ _ _ _)
      | (with_reducible exact ih6 _ _ _ _ _ _ _ _)
      | (with_reducible exact ih7 _ _ _ _ _ _ _ _)
      | (with_reducible exact ih8 _ _ _ _ _ _ _ _ _ _)
      | (with_reducible exact ih9 _ _ _ _ _ _ _ _ _ _ _ _)
      | (with_reducible exact ih10 _ _ _ _ _ _ _ _ _ _ _ _ _ _)
      | (with_reducible exact impl_HalvesOfHeard.mono _ _ _)
      | (with_reducible exact impl_HeardFrom.mono _ _ _ _)
      | (with_reducible exact impl_IsHeard.mono _ _ _)
      | (with_reducible exact impl_KnownAfter.mono _ _ _)
      | (with_reducible exact impl_LongestUnknown.mono _ _)
      | (with_reducible exact impl_NextHeard.mono _ _ _)
      | (with_reducible exact laws_kHas.mono _ _ _)
      | (with_reducible exact laws_kSame.mono _ _ _)
      | (with_reducible exact spec_HalvesOfHeard.mono _ _ _)
      | (with_reducible exact spec_IsHeard.mono _ _ _)
      | (with_reducible exact spec_KnownAfter.mono _ _ _)
      | (with_reducible exact spec_LongestUnknown.mono _ _)
      | (with_reducible exact spec_NextHeard.mono _ _ _)
      | (with_reducible exact LeO.refl _)
      | (with_reducible exact LeO.none _)
      | (with_reducible refine LeO.ite ?_ ?_)
      | (with_reducible refine LeO.bind ?_ (fun _ => ?_))
      | exact ih0 _ _ _ _ _ _ _ _ _ _
      | exact ih1 _ _ _
      | exact ih2 _ _ _ _ _ _ _ _ _
      | exact ih3 _ _ _ _
      | exact ih4 _ _ _ _
      | exact ih5 _ _ _ _ _ _ _ _
      | exact ih6 _ _ _ _ _ _ _ _
      | exact ih7 _ _ _ _ _ _ _ _
      | exact ih8 _ _ _ _ _ _ _ _ _ _
      | exact ih9 _ _ _ _ _ _ _ _ _ _ _ _
      | exact ih10 _ _ _ _ _ _ _ _ _ _ _ _ _ _
      | exact impl_HalvesOfHeard.mono _ _ _
      | exact impl_HeardFrom.mono _ _ _ _
      | exact impl_IsHeard.mono _ _ _
      | exact impl_KnownAfter.mono _ _ _
      | exact impl_LongestUnknown.mono _ _
      | exact impl_NextHeard.mono _ _ _
      | exact laws_kHas.mono _ _ _
      | exact laws_kSame.mono _ _ _
      | exact spec_HalvesOfHeard.mono _ _ _
      | exact spec_IsHeard.mono _ _ _
      | exact spec_KnownAfter.mono _ _ _
      | exact spec_LongestUnknown.mono _ _
      | exact spec_NextHeard.mono _ _ _
      | exact LeO.none _
      | refine LeO.ite ?_ ?_
      | refine LeO.bind ?_ (fun _ => ?_)
    · intro y0 y1 y2
      unfold laws_FnStrokesHeardOfAll.j6
      repeat' first
      | (with_reducible exact ih0 _ _ _ _ _ _ _ _ _ _)
      | (with_reducible exact ih1 _ _ _)
      | (with_reducible exact ih2 _ _ _ _ _ _ _ _ _)
      | (with_reducible exact ih3 _ _ _ _)
      | (with_reducible exact ih4 _ _ _ _)
      | (with_reducible exact ih5 _ _ _ _ _ _ _ _)
      | (with_reducible exact ih6 _ _ _ _ _ _ _ _)
      | (with_reducible exact ih7 _ _ _ _ _ _ _ _)
      | (with_reducible exact ih8 _ _ _ _ _ _ _ _ _ _)
      | (with_reducible exact ih9 _ _ _ _ _ _ _ _ _ _ _ _)
      | (with_reducible exact ih10 _ _ _ _ _ _ _ _ _ _ _ _ _ _)
      | (with_reducible exact impl_HalvesOfHeard.mono _ _ _)
      | (with_reducible exact impl_HeardFrom.mono _ _ _ _)
      | (with_reducible exact impl_IsHeard.mono _ _ _)
      | (with_reducible exact impl_KnownAfter.mono _ _ _)
      | (with_reducible exact impl_LongestUnknown.mono _ _)
      | (with_reducible exact impl_NextHeard.mono _ _ _)
      | (with_reducible exact laws_kHas.mono _ _ _)
      | (with_reducible exact laws_kSame.mono _ _ _)
      | (with_reducible exact spec_HalvesOfHeard.mono _ _ _)
      | (with_reducible exact spec_IsHeard.mono _ _ _)
      | (with_reducible exact spec_KnownAfter.mono _ _ _)
      | (with_reducible exact spec_LongestUnknown.mono _ _)
      | (with_reducible exact spec_NextHeard.mono _ _ _)
      | (with_reducible exact LeO.refl _)
      | (with_reducible exact LeO.none _)
      | (with_reducible refine LeO.ite ?_ ?_)
      | (with_reducible refine LeO.bind ?_ (fun _ => ?_))
      | exact ih0 _ _ _ _ _ _ _ _ _ _
      | exact ih1 _ _ _
      | exact ih2 _ _ _ _ _ _ _ _ _
      | exact ih3 _ _ _ _
      | exact ih4 _ _ _ _
      | exact ih5 _ _ _ _ _ _ _ _
      | exact ih6 _ _ _ _ _ _ _ _
      | exact ih7 _ _ _ _ _ _ _ _
      | exact ih8 _ _ _ _ _ _ _ _ _ _
      | exact ih9 _ _ _ _ _ _ _ _ _ _ _ _
      | exact ih10 _ _ _ _ _ _ _ _ _ _ _ _ _ _
      | exact impl_HalvesOfHeard.mono _ _ _
      | exact impl_HeardFrom.mono _ _ _ _
      | exact impl_IsHeard.mono _ _ _
      | exact impl_KnownAfter.mono _ _ _
      | exact impl_LongestUnknown.mono _ _
      | exact impl_NextHeard.mono _ _ _
      | exact laws_kHas.mono _ _ _
      | exact laws_kSame.mono _ _ _
      | exact spec_HalvesOfHeard.mono _ _ _
      | exact spec_IsHeard.mono _ _ _
      | exact spec_KnownAfter.mono _ _ _
      | exact spec_LongestUnknown.mono _ _
      | exact spec_NextHeard.mono _ _ _
      | exact LeO.none _
      | refine LeO.ite ?_ ?_
      | refine LeO.bind ?_ (fun _ => ?_)
    · intro y0 y1 y2 y3 y4 y5 y6 y7 y8
      unfold laws_FnStrokesHeardOfAll.j7
      repeat' first
      | (with_reducible exact ih0 _ _ _ _ _ _ _ _ _ _)
      | (with_reducible exact ih1 _ _ _)
      | (with_reducible exact ih2 _ _ _ _ _ _ _ _ _)
      | (with_reducible exact ih3 _ _ _ _)
      | (with_reducible exact ih4 _ _ _ _)
      | (with_reducible exact ih5 _ _ _ _ _ _ _ _)
      | (with_reducible exact ih6 _ _ _ _ _ _ _ _)
      | (with_reducible exact ih7 _ _ _ _ _ _ _ _)
      | (with_reducible exact ih8 _ _ _ _ _ _ _ _ _ _)
      | (with_reducible exact ih9 _ _ _ _ _ _ _ _ _ _ _ _)
      | (with_reducible exact ih10 _ _ _ _ _ _ _ _ _ _ _ _ _ _)
      | (with_reducible exact impl_HalvesOfHeard.mono _ _ _)
      | (with_reducible exact impl_HeardFrom.mono _ _ _ _)
      | (with_reducible exact impl_IsHeard.mono _ _ _)
      | (with_reducible exact impl_KnownAfter.mono _ _ _)
      | (with_reducible exact impl_LongestUnknown.mono _ _)
      | (with_reducible exact impl_NextHeard.mono _ _ _)
      | (with_reducible exact laws_kHas.mono _ _ _)
      | (with_reducible exact laws_kSame.mono _ _ _)
      | (with_reducible exact spec_HalvesOfHeard.mono _ _ _)
      | (with_reducible exact spec_IsHeard.mono _ _ _)
      | (with_reducible exact spec_KnownAfter.mono _ _ _)
      | (with_reducible exact spec_LongestUnknown.mono _ _)
      | (with_reducible exact spec_NextHeard.mono _ _ _)
      | (with_reducible exact LeO.refl _)
      | (with_reducible exact LeO.none _)
      | (with_reducible refine LeO.ite ?_ ?_)
      | (with_reducible refine LeO.bind ?_ (fun _ => ?_))
      | exact ih0 _ _ _ _ _ _ _ _ _ _
      | exact ih1 _ _ _
      | exact ih2 _ _ _ _ _ _ _ _ _
      | exact ih3 _ _ _ _
      | exact ih4 _ _ _ _
      | exact ih5 _ _ _ _ _ _ _ _
      | exact ih6 _ _ _ _ _ _ _ _
      | exact ih7 _ _ _ _ _ _ _ _
      | exact ih8 _ _ _ _ _ _ _ _ _ _
      | exact ih9 _ _ _ _ _ _ _ _ _ _ _ _
      | exact ih10 _ _ _ _ _ _ _ _ _ _ _ _ _ _
      | exact impl_HalvesOfHeard.mono _ _ _
      | exact impl_HeardFrom.mono _ _ _ _
      | exact impl_IsHeard.mono _ _ _
      | exact impl_KnownAfter.mono _ _ _
      | exact impl_LongestUnknown.mono _ _
      | exact impl_NextHeard.mono _ _ _
      | exact laws_kHas.mono _ _ _
      | exact laws_kSame.mono _ _ _
      | exact spec_HalvesOfHeard.mono _ _ _
      | exact spec_IsHeard.mono _ _ _
      | exact spec_KnownAfter.mono _ _ _
      | exact spec_LongestUnknown.mono _ _
      | exact spec_NextHeard.mono _ _ _
      | exact LeO.none _
      | refine LeO.ite ?_ ?_
      | refine LeO.bind ?_ (fun _ => ?_)
    · intro y0 y1 y2 y3
      unfold laws_FnStrokesHeardOfAll.j9
      repeat' first
      | (with_reducible exact ih0 _ _ _ _ _ _ _ _ _ _)
      | (with_reducible exact ih1 _ _ _)
      | (with_reducible exact ih2 _ _ _ _ _ _ _ _ _)
      | (with_reducible exact ih3 _ _ _ _)
      | (with_reducible exact ih4 _ _ _ _)
      | (with_reducible exact ih5 _ _ _ _ _ _ _ _)
      | (with_reducible exact ih6 _ _ _ _ _ _ _ _)
      | (with_reducible exact ih7 _ _ _ _ _ _ _ _)
      | (with_reducible exact ih8 _ _ _ _ _ _ _ _ _ _)
      | (with_reducible exact ih9 _ _ _ _ _ _ _ _ _ _ _ _)
      | (with_reducible exact ih10 _ _ _ _ _ _ _ _ _ _ _ _ _ _)
      | (with_reducible exact impl_HalvesOfHeard.mono _ _ _)
      | (with_reducible exact impl_HeardFrom.mono _ _ _ _)
      | (with_reducible exact impl_IsHeard.mono _ _ _)
      | (with_reducible exact impl_KnownAfter.mono _ _ _)
      | (with_reducible exact impl_LongestUnknown.mono _ _)
      | (with_reducible exact impl_NextHeard.mono _ _ _)
      | (with_reducible exact laws_kHas.mono _ _ _)
      | (with_reducible exact laws_kSame.mono _ _ _)
      | (with_reducible exact spec_HalvesOfHeard.mono _ _ _)
      | (with_reducible exact spec_IsHeard.mono _ _ _)
      | (with_reducible exact spec_KnownAfter.mono _ _ _)
      | (with_reducible exact spec_LongestUnknown.mono _ _)
      | (with_reducible exact spec_NextHeard.mono _ _ _)
      | (with_reducible exact LeO.refl _)
      | (with_reducible exact LeO.none _)
      | (with_reducible refine LeO.ite ?_ ?_)
      | (with_reducible refine LeO.bind ?_ (fun _ => ?_))
      | exact ih0 _ _ _ _ _ _ _ _ _ _
      | exact ih1 _ _ _
      | exact ih2 _ _ _ _ _ _ _ _ _
      | exact ih3 _ _ _ _
      | exact ih4 _ _ _ _
      | exact ih5 _ _ _ _ _ _ _ _
      | exact ih6 _ _ _ _ _ _ _ _
      | exact ih7 _ _ _ _ _ _ _ _
      | exact ih8 _ _ _ _ _ _ _ _ _ _
      | exact ih9 _ _ _ _ _ _ _ _ _ _ _ _
      | exact ih10 _ _ _ _ _ _ _ _ _ _ _ _ _ _
      | exact impl_HalvesOfHeard.mono _ _ _
      | exact impl_HeardFrom.mono _ _ _ _
      | exact impl_IsHeard.mono _ _ _
      | exact impl_KnownAfter.mono _ _ _
      | exact impl_LongestUnknown.mono _ _
      | exact impl_NextHeard.mono _ _ _
      | exact laws_kHas.mono _ _ _
      | exact laws_kSame.mono _ _ _
      | exact spec_HalvesOfHeard.mono _ _ _
      | exact spec_IsHeard.mono _ _ _
      | exact spec_KnownAfter.mono _ _ _
      | exact spec_LongestUnknown.mono _ _
      | exact spec_NextHeard.mono _ _ _
      | exact LeO.none _
      | refine LeO.ite ?_ ?_
      | refine LeO.bind ?_ (fun _ => ?_)
    · intro y0 y1 y2 y3
      unfold laws_FnStrokesHeardOfAll.l3
      repeat' first
      | (with_reducible exact ih0 _ _ _ _ _ _ _ _ _ _)
      | (with_reducible exact ih1 _ _ _)
      | (with_reducible exact ih2 _ _ _ _ _ _ _ _ _)
      | (with_reducible exact ih3 _ _ _ _)
      | (with_reducible exact ih4 _ _ _ _)
      | (with_reducible exact ih5 _ _ _ _ _ _ _ _)
      | (with_reducible exact ih6 _ _ _ _ _ _ _ _)
      | (with_reducible exact ih7 _ _ _ _ _ _ _ _)
      | (with_reducible exact ih8 _ _ _ _ _ _ _ _ _ _)
      | (with_reducible exact ih9 _ _ _ _ _ _ _ _ _ _ _ _)
      | (with_reducible exact ih10 _ _ _ _ _ _ _ _ _ _ _ _ _ _)
      | (with_reducible exact impl_HalvesOfHeard.mono _ _ _)
      | (with_reducible exact impl_HeardFrom.mono _ _ _ _)
      | (with_reducible exact impl_IsHeard.mono _ _ _)
      | (with_reducible exact impl_KnownAfter.mono _ _ _)
      | (with_reducible exact impl_LongestUnknown.mono _ _)
      | (with_reducible exact impl_NextHeard.mono _ _ _)
      | (with_reducible exact laws_kHas.mono _ _ _)
      | (with_reducible exact laws_kSame.mono _ _ _)
      | (with_reducible exact spec_HalvesOfHeard.mono _ _ _)
      | (with_reducible exact spec_IsHeard.mono _ _ _)
      | (with_reducible exact spec_KnownAfter.mono _ _ _)
      | (with_reducible exact spec_LongestUnknown.mono _ _)
      | (with_reducible exact spec_NextHeard.mono _ _ _)
      | (with_reducible exact LeO.refl _)
      | (with_reducible exact LeO.none _)
      | (with_reducible refine LeO.ite ?_ ?_)
      | (with_reducible refine LeO.bind ?_ (fun _ => ?_))
      | exact ih0 _ _ _ _ _ _ _ _ _ _
      | exact ih1 _ _ _
      | exact ih2 _ _ _ _ _ _ _ _ _
      | exact ih3 _ _ _ _
      | exact ih4 _ _ _ _
      | exact ih5 _ _ _ _ _ _ _ _
      | exact ih6 _ _ _ _ _ _ _ _
      | exact ih7 _ _ _ _ _ _ _ _
      | exact ih8 _ _ _ _ _ _ _ _ _ _
      | exact ih9 _ _ _ _ _ _ _ _ _ _ _ _
      | exact ih10 _ _ _ _ _ _ _ _ _ _ _ _ _ _
      | exact impl_HalvesOfHeard.mono _ _ _
      | exact impl_HeardFrom.mono _ _ _ _
      | exact impl_IsHeard.mono _ _ _
      | exact impl_KnownAfter.mono _ _ _
      | exact impl_LongestUnknown.mono _ _
      | exact impl_NextHeard.mono _ _ _
      | exact laws_kHas.mono _ _ _
      | exact laws_kSame.mono _ _ _
      | exact spec_HalvesOfHeard.mono _ _ _
      | exact spec_IsHeard.mono _ _ _
      | exact spec_KnownAfter.mono _ _ _
      | exact spec_LongestUnknown.mono _ _
      | exact spec_NextHeard.mono _ _ _
      | exact LeO.none _
      | refine LeO.ite ?_ ?_
      | refine LeO.bind ?_ (fun _ => ?_)
    · intro y0 y1 y2 y3 y4 y5 y6 y7
      unfold laws_FnStrokesHeardOfAll.j8
      repeat' first
      | (with_reducible exact ih0 _ _ _ _ _ _ _ _ _ _)
      | (with_reducible exact ih1 _ _ _)
      | (with_reducible exact ih2 _ _ _ _ _ _ _ _ _)
      | (with_reducible exact ih3 _ _ _ _)
      | (with_reducible exact ih4 _ _ _ _)
      | (with_reducible exact ih5 _ _ _ _ _ _ _ _)
      | (with_reducible exact ih6 _ _ _ _ _ _ _ _)
      | (with_reducible exact ih7 _ _ _ _ _ _ _ _)
      | (with_reducible exact ih8 _ _ _ _ _ _ _ _ _ _)
      | (with_reducible exact ih9 _ _ _ _ _ _ _ _ _ _ _ _)
      | (with_reducible exact ih10 _ _ _ _ _ _ _ _ _ _ _ _ _ _)
      | (with_reducible exact impl_HalvesOfHeard.mono _ _ _)
      | (with_reducible exact impl_HeardFrom.mono _ _ _ _)
      | (with_reducible exact impl_IsHeard.mono _ _ _)
      | (with_reducible exact impl_KnownAfter.mono _ _ _)
      | (with_reducible exact impl_LongestUnknown.mono _ _)
      | (with_reducible exact impl_NextHeard.mono _ _ _)
      | (with_reducible exact laws_kHas.mono _ _ _)
      | (with_reducible exact laws_kSame.mono _ _ _)
      | (with_reducible exact spec_HalvesOfHeard.mono _ _ _)
      | (with_reducible exact spec_IsHeard.mono _ _ _)
      | (with_reducible exact spec_KnownAfter.mono _ _ _)
      | (with_reducible exact spec_LongestUnknown.mono _ _)
      | (with_reducible exact spec_NextHeard.mono _ _ _)
      | (with_reducible exact LeO.refl _)
      | (with_reducible exact LeO.none _)
      | (with_reducible refine LeO.ite ?_ ?_)
      | (with_reducible refine LeO.bind ?_ (fun _ => ?_))
      | exact ih0 _ _ _ _ _ _ _ _ _ _
      | exact ih1 _ _ _
      | exact ih2 _ _ _ _ _ _ _ _ _
      | exact ih3 _ _ _ _
      | exact ih4 _ _ _ _
      | exact ih5 _ _ _ _ _ _ _ _
      | exact ih6 _ _ _ _ _ _ _ _
      | exact ih7 _ _ _ _ _ _ _ _
      | exact ih8 _ _ _ _ _ _ _ _ _ _
      | exact ih9 _ _ _ _ _ _ _ _ _ _ _ _
      | exact ih10 _ _ _ _ _ _ _ _ _ _ _ _ _ _
      | exact impl_HalvesOfHeard.mono _ _ _
      | exact impl_HeardFrom.mono _ _ _ _
      | exact impl_IsHeard.mono _ _ _
      | exact impl_KnownAfter.mono _ _ _
      | exact impl_LongestUnknown.mono _ _
      | exact impl_NextHeard.mono _ _ _
      | exact laws_kHas.mono _ _ _
      | exact laws_kSame.mono _ _ _
      | exact spec_HalvesOfHeard.mono _ _ _
      | exact spec_IsHeard.mono _ _ _
      | exact spec_KnownAfter.mono _ _ _
      | exact spec_LongestUnknown.mono _ _
      | exact spec_NextHeard.mono _ _ _
      | exact LeO.none _
      | refine LeO.ite ?_ ?_
      | refine LeO.bind ?_ (fun _ => ?_)
    · intro y0 y1 y2 y3 y4 y5 y6 y7
      unfold laws_FnStrokesHeardOfAll.j1
      repeat' first
      | (with_reducible exact ih0 _ _ _ _ _ _ _ _ _ _)
      | (with_reducible exact ih1 _ _ _)
      | (with_reducible exact ih2 _ _ _ _ _ _ _ _ _)
      | (with_reducible exact ih3 _ _ _ _)
      | (with_reducible exact ih4 _ _ _ _)
      | (with_reducible exact ih5 _ _ _ _ _ _ _ _)
      | (with_reducible exact ih6 _ _ _ _ _ _ _ _)
      | (with_reducible exact ih7 _ _ _ _ _ _ _ _)
      | (with_reducible exact ih8 _ _ _ _ _ _ _ _ _ _)
      | (with_reducible exact ih9 _ _ _ _ _ _ _ _ _ _ _ _)
      | (with_reducible exact ih10 _ _ _ _ _ _ _ _ _ _ _ _ _ _)
      | (with_reducible exact impl_HalvesOfHeard.mono _ _ _)
      | (with_reducible exact impl_HeardFrom.mono _ _ _ _)
      | (with_reducible exact impl_IsHeard.mono _ _ _)
      | (with_reducible exact impl_KnownAfter.mono _ _ _)
      | (with_reducible exact impl_LongestUnknown.mono _ _)
      | (with_reducible exact impl_NextHeard.mono _ _ _)
      | (with_reducible exact laws_kHas.mono _ _ _)
      | (with_reducible exact laws_kSame.mono _ _ _)
      | (with_reducible exact spec_HalvesOfHeard.mono _ _ _)
      | (with_reducible exact spec_IsHeard.mono _ _ _)
      | (with_reducible exact spec_KnownAfter.mono _ _ _)
      | (with_reducible exact spec_LongestUnknown.mono _ _)
      | (with_reducible exact spec_NextHeard.mono _ _ _)
      | (with_reducible exact LeO.refl _)
      | (with_reducible exact LeO.none _)
      | (with_reducible refine LeO.ite ?_ ?_)
      | (with_reducible refine LeO.bind ?_ (fun _ => ?_))
      | exact ih0 _ _ _ _ _ _ _ _ _ _
      | exact ih1 _ _ _
      | exact ih2 _ _ _ _ _ _ _ _ _
      | exact ih3 _ _ _ _
      | exact ih4 _ _ _ _
      | exact ih5 _ _ _ _ _ _ _ _
      | exact ih6 _ _ _ _ _ _ _ _
      | exact ih7 _ _ _ _ _ _ _ _
      | exact ih8 _ _ _ _ _ _ _ _ _ _
      | exact ih9 _ _ _ _ _ _ _ _ _ _ _ _
      | exact ih10 _ _ _ _ _ _ _ _ _ _ _ _ _ _
      | exact impl_HalvesOfHeard.mono _ _ _
      | exact impl_HeardFrom.mono _ _ _ _
      | exact impl_IsHeard.mono _ _ _
      | exact impl_KnownAfter.mono _ _ _
      | exact impl_LongestUnknown.mono _ _
      | exact impl_NextHeard.mono _ _ _
      | exact laws_kHas.mono _ _ _
      | exact laws_kSame.mono _ _ _
      | exact spec_HalvesOfHeard.mono _ _ _
      | exact spec_IsHeard.mono _ _ _
      | exact spec_KnownAfter.mono _ _ _
      | exact spec_LongestUnknown.mono _ _
      | exact spec_NextHeard.mono _ _ _
      | exact LeO.none _
      | refine LeO.ite ?_ ?_
      | refine LeO.bind ?_ (fun _ => ?_)
    · intro y0 y1 y2 y3 y4 y5 y6 y7
      unfold laws_FnStrokesHeardOfAll.l0
      repeat' first
      | (with_reducible exact ih0 _ _ _ _ _ _ _ _ _ _)
      | (with_reducible exact ih1 _ _ _)
      | (with_reducible exact ih2 _ _ _ _ _ _ _ _ _)
      | (with_reducible exact ih3 _ _ _ _)
      | (with_reducible exact ih4 _ _ _ _)
      | (with_reducible exact ih5 _ _ _ _ _ _ _ _)
      | (with_reducible exact ih6 _ _ _ _ _ _ _ _)
      | (with_reducible exact ih7 _ _ _ _ _ _ _ _)
      | (with_reducible exact ih8 _ _ _ _ _ _ _ _ _ _)
      | (with_reducible exact ih9 _ _ _ _ _ _ _ _ _ _ _ _)
      | (with_reducible exact ih10 _ _ _ _ _ _ _ _ _ _ _ _ _ _)
      | (with_reducible exact impl_HalvesOfHeard.mono _ _ _)
      | (with_reducible exact impl_HeardFrom.mono _ _ _ _)
      | (with_reducible exact impl_IsHeard.mono _ _ _)
      | (with_reducible exact impl_KnownAfter.mono _ _ _)
      | (with_reducible exact impl_LongestUnknown.mono _ _)
      | (with_reducible exact impl_NextHeard.mono _ _ _)
      | (with_reducible exact laws_kHas.mono _ _ _)
      | (with_reducible exact laws_kSame.mono _ _ _)
      | (with_reducible exact spec_HalvesOfHeard.mono _ _ _)
      | (with_reducible exact spec_IsHeard.mono _ _ _)
      | (with_reducible exact spec_KnownAfter.mono _ _ _)
      | (with_reducible exact spec_LongestUnknown.mono _ _)
      | (with_reducible exact spec_NextHeard.mono _ _ _)
      | (with_reducible exact LeO.refl _)
      | (with_reducible exact LeO.none _)
      | (with_reducible refine LeO.ite ?_ ?_)
      | (with_reducible refine LeO.bind ?_ (fun _ => ?_))
      | exact ih0 _ _ _ _ _ _ _ _ _ _
      | exact ih1 _ _ _
      | exact ih2 _ _ _ _ _ _ _ _ _
      | exact ih3 _ _ _ _
      | exact ih4 _ _ _ _
      | exact ih5 _ _ _ _ _ _ _ _
      | exact ih6 _ _ _ _ _ _ _ _
      | exact ih7 _ _ _ _ _ _ _ _
      | exact ih8 _ _ _ _ _ _ _ _ _ _
      | exact ih9 _ _ _ _ _ _ _ _ _ _ _ _
      | exact ih10 _ _ _ _ _ _ _ _ _ _ _ _ _ _
      | exact impl_HalvesOfHeard.mono _ _ _
      | exact impl_HeardFrom.mono _ _ _ _
      | exact impl_IsHeard.mono _ _ _
      | exact impl_KnownAfter.mono _ _ _
      | exact impl_LongestUnknown.mono _ _
      | exact impl_NextHeard.mono _ _ _
      | exact laws_kHas.mono _ _ _
      | exact laws_kSame.mono _ _ _
      | exact spec_HalvesOfHeard.mono _ _ _
      | exact spec_IsHeard.mono _ _ _
      | exact spec_KnownAfter.mono _ _ _
      | exact spec_LongestUnknown.mono _ _
      | exact spec_NextHeard.mono _ _ _
      | exact LeO.none _
      | refine LeO.ite ?_ ?_
      | refine LeO.bind ?_ (fun _ => ?_)
    · intro y0 y1 y2 y3 y4 y5 y6 y7 y8 y9
      unfold laws_FnStrokesHeardOfAll.l1
      repeat' first
      | (with_reducible exact ih0 _ _ _ _ _ _ _ _ _ _)
      | (with_reducible exact ih1 _ _ _)
      | (with_reducible exact ih2 _ _ _ _ _ _ _ _ _)
      | (with_reducible exact ih3 _ _ _ _)
      | (with_reducible exact ih4 _ _ _ _)
      | (with_reducible exact ih5 _ _ _ _ _ _ _ _)
      | (with_reducible exact ih6 _ _ _ _ _ _ _ _)
      | (with_reducible exact ih7 _ _ _ _ _ _ _ _)
      | (with_reducible exact ih8 _ _ _ _ _ _ _ _ _ _)
      | (with_reducible exact ih9 _ _ _ _ _ _ _ _ _ _ _ _)
      | (with_reducible exact ih10 _ _ _ _ _ _ _ _ _ _ _ _ _ _)
      | (with_reducible exact impl_HalvesOfHeard.mono _ _ _)
      | (with_reducible exact impl_HeardFrom.mono _ _ _ _)
      | (with_reducible exact impl_IsHeard.mono _ _ _)
      | (with_reducible exact impl_KnownAfter.mono _ _ _)
      | (with_reducible exact impl_LongestUnknown.mono _ _)
      | (with_reducible exact impl_NextHeard.mono _ _ _)
      | (with_reducible exact laws_kHas.mono _ _ _)
      | (with_reducible exact laws_kSame.mono _ _ _)
      | (with_reducible exact spec_HalvesOfHeard.mono _ _ _)
      | (with_reducible exact spec_IsHeard.mono _ _ _)
      | (with_reducible exact spec_KnownAfter.mono _ _ _)
      | (with_reducible exact spec_LongestUnknown.mono _ _)
      | (with_reducible exact spec_NextHeard.mono _ _ _)
      | (with_reducible exact LeO.refl _)
      | (with_reducible exact LeO.none _)
      | (with_reducible refine LeO.ite ?_ ?_)
      | (with_reducible refine LeO.bind ?_ (fun _ => ?_))
      | exact ih0 _ _ _ _ _ _ _ _ _ _
      | exact ih1 _ _ _
      | exact ih2 _ _ _ _ _ _ _ _ _
      | exact ih3 _ _ _ _
      | exact ih4 _ _ _ _
      | exact ih5 _ _ _ _ _ _ _ _
      | exact ih6 _ _ _ _ _ _ _ _
      | exact ih7 _ _ _ _ _ _ _ _
      | exact ih8 _ _ _ _ _ _ _ _ _ _
      | exact ih9 _ _ _ _ _ _ _ _ _ _ _ _
      | exact ih10 _ _ _ _ _ _ _ _ _ _ _ _ _ _
      | exact impl_HalvesOfHeard.mono _ _ _
      | exact impl_HeardFrom.mono _ _ _ _
      | exact impl_IsHeard.mono _ _ _
      | exact impl_KnownAfter.mono _ _ _
      | exact impl_LongestUnknown.mono _ _
      | exact impl_NextHeard.mono _ _ _
      | exact laws_kHas.mono _ _ _
      | exact laws_kSame.mono _ _ _
      | exact spec_HalvesOfHeard.mono _ _ _
      | exact spec_IsHeard.mono _ _ _
      | exact spec_KnownAfter.mono _ _ _
      | exact spec_LongestUnknown.mono _ _
      | exact spec_NextHeard.mono _ _ _
      | exact LeO.none _
      | refine LeO.ite ?_ ?_
      | refine LeO.bind ?_ (fun _ => ?_)
    · intro y0 y1 y2 y3 y4 y5 y6 y7 y8 y9 y10 y11
      unfold laws_FnStrokesHeardOfAll.j4
      repeat' first
      | (with_reducible exact ih0 _ _ _ _ _ _ _ _ _ _)
      | (with_reducible exact ih1 _ _ _)
      | (with_reducible exact ih2 _ _ _ _ _ _ _ _ _)
      | (with_reducible exact ih3 _ _ _ _)
      | (with_reducible exact ih4 _ _ _ _)
      | (with_reducible exact ih5 _ _ _ _ _ _ _ _)
      | (with_reducible exact ih6 _ _ _ _ _ _ _ _)
      | (with_reducible exact ih7 _ _ _ _ _ _ _ _)
      | (with_reducible exact ih8 _ _ _ _ _ _ _ _ _ _)
      | (with_reducible exact ih9 _ _ _ _ _ _ _ _ _ _ _ _)
      | (with_reducible exact ih10 _ _ _ _ _ _ _ _ _ _ _ _ _ _)
      | (with_reducible exact impl_HalvesOfHeard.mono _ _ _)
      | (with_reducible exact impl_HeardFrom.mono _ _ _ _)
      | (with_reducible exact impl_IsHeard.mono _ _ _)
      | (with_reducible exact impl_KnownAfter.mono _ _ _)
      | (with_reducible exact impl_LongestUnknown.mono _ _)
      | (with_reducible exact impl_NextHeard.mono _ _ _)
      | (with_reducible exact laws_kHas.mono _ _ _)
      | (with_reducible exact laws_kSame.mono _ _ _)
      | (with_reducible exact spec_HalvesOfHeard.mono _ _ _)
      | (with_reducible exact spec_IsHeard.mono _ _ _)
      | (with_reducible exact spec_KnownAfter.mono _ _ _)
      | (with_reducible exact spec_LongestUnknown.mono _ _)
      | (with_reducible exact spec_NextHeard.mono _ _ _)
      | (with_reducible exact LeO.refl _)
      | (with_reducible exact LeO.none _)
      | (with_reducible refine LeO.ite ?_ ?_)
      | (with_reducible refine LeO.bind ?_ (fun _ => ?_))
      | exact ih0 _ _ _ _ _ _ _ _ _ _
      | exact ih1 _ _ _
      | exact ih2 _ _ _ _ _ _ _ _ _
      | exact ih3 _ _ _ _
      | exact ih4 _ _ _ _
      | exact ih5 _ _ _ _ _ _ _ _
      | exact ih6 _ _ _ _ _ _ _ _
      | exact ih7 _ _ _ _ _ _ _ _
      | exact ih8 _ _ _ _ _ _ _ _ _ _
      | exact ih9 _ _ _ _ _ _ _ _ _ _ _ _
      | exact ih10 _ _ _ _ _ _ _ _ _ _ _ _ _ _
      | exact impl_HalvesOfHeard.mono _ _ _
      | exact impl_HeardFrom.mono _ _ _ _
      | exact impl_IsHeard.mono _ _ _
      | exact impl_KnownAfter.mono _ _ _
      | exact impl_LongestUnknown.mono _ _
      | exact impl_NextHeard.mono _ _ _
      | exact laws_kHas.mono _ _ _
      | exact laws_kSame.mono _ _ _
      | exact spec_HalvesOfHeard.mono _ _ _
      | exact spec_IsHeard.mono _ _ _
      | exact spec_KnownAfter.mono _ _ _
      | exact spec_LongestUnknown.mono _ _
      | exact spec_NextHeard.mono _ _ _
      | exact LeO.none _
      | refine LeO.ite ?_ ?_
      | refine LeO.bind ?_ (fun _ => ?_)
    · intro y0 y1 y2 y3 y4 y5 y6 y7 y8 y9 y10 y11 y12 y13
      unfold laws_FnStrokesHeardOfAll.l2
      repeat' first
      | (with_reducible exact ih0 _ _ _ _ _ _ _ _ _ _)
      | (with_reducible exact ih1 _ _ _)
      | (with_reducible exact ih2 _ _ _ _ _ _ _ _ _)
      | (with_reducible exact ih3 _ _ _ _)
      | (with_reducible exact ih4 _ _ _ _)
      | (with_reducible exact ih5 _ _ _ _ _ _ _ _)
      | (with_reducible exact ih6 _ _ _ _ _ _ _ _)
      | (with_reducible exact ih7 _ _ _ _ _ _ _ _)
      | (with_reducible exact ih8 _ _ _ _ _ _ _ _ _ _)
      | (with_reducible exact ih9 _ _ _ _ _ _ _ _ _ _ _ _)
      | (with_reducible exact ih10 _ _ _ _ _ _ _ _ _ _ _ _ _ _)
      | (with_reducible exact impl_HalvesOfHeard.mono _ _ _)
      | (with_reducible exact impl_HeardFrom.mono _ _ _ _)
      | (with_reducible exact impl_IsHeard.mono _ _ _)
      | (with_reducible exact impl_KnownAfter.mono _ _ _)
      | (with_reducible exact impl_LongestUnknown.mono _ _)
      | (with_reducible exact impl_NextHeard.mono _ _ _)
      | (with_reducible exact laws_kHas.mono _ _ _)
      | (with_reducible exact laws_kSame.mono _ _ _)
      | (with_reducible exact spec_HalvesOfHeard.mono _ _ _)
      | (with_reducible exact spec_IsHeard.mono _ _ _)
      | (with_reducible exact spec_KnownAfter.mono _ _ _)
      | (with_reducible exact spec_LongestUnknown.mono _ _)
      | (with_reducible exact spec_NextHeard.mono _ _ _)
      | (with_reducible exact LeO.refl _)
      | (with_reducible exact LeO.none _)
      | (with_reducible refine LeO.ite ?_ ?_)
      | (with_reducible refine LeO.bind ?_ (fun _ => ?_))
      | exact ih0 _ _ _ _ _ _ _ _ _ _
      | exact ih1 _ _ _
      | exact ih2 _ _ _ _ _ _ _ _ _
      | exact ih3 _ _ _ _
      | exact ih4 _ _ _ _
      | exact ih5 _ _ _ _ _ _ _ _
      | exact ih6 _ _ _ _ _ _ _ _
      | exact ih7 _ _ _ _ _ _ _ _
      | exact ih8 _ _ _ _ _ _ _ _ _ _
      | exact ih9 _ _ _ _ _ _ _ _ _ _ _ _
      | exact ih10 _ _ _ _ _ _ _ _ _ _ _ _ _ _
      | exact impl_HalvesOfHeard.mono _ _ _
      | exact impl_HeardFrom.mono _ _ _ _
      | exact impl_IsHeard.mono _ _ _
      | exact impl_KnownAfter.mono _ _ _
      | exact impl_LongestUnknown.mono _ _
      | exact impl_NextHeard.mono _ _ _
      | exact laws_kHas.mono _ _ _
      | exact laws_kSame.mono _ _ _
      | exact spec_HalvesOfHeard.mono _ _ _
      | exact spec_IsHeard.mono _ _ _
      | exact spec_KnownAfter.mono _ _ _
      | exact spec_LongestUnknown.mono _ _
      | exact spec_NextHeard.mono _ _ _
      | exact LeO.none _
      | refine LeO.ite ?_ ?_
      | refine LeO.bind ?_ (fun _ => ?_)
theorem laws_FnStrokesHeardOfAll.mono : ∀ a0 a1 a2 a3 a4 k, LeO (laws_FnStrokesHeardOfAll.f k a0 a1 a2 a3 a4) (laws_FnStrokesHeardOfAll.f (k + 1) a0 a1 a2 a3 a4) := by
  intro a0 a1 a2 a3 a4 k
  obtain ⟨ih0, ih1, ih2, ih3, ih4, ih5, ih6, ih7, ih8, ih9, ih10⟩ := laws_FnStrokesHeardOfAll.mono_l k
  unfold laws_FnStrokesHeardOfAll.f
  repeat' first
      | (with_reducible exact ih0 _ _ _ _ _ _ _ _ _ _)
      | (with_reducible exact ih1 _ _ _)
      | (with_reducible exact ih2 _ _ _ _ _ _ _ _ _)
      | (with_reducible exact ih3 _ _ _ _)
      | (with_reducible exact ih4 _ _ _ _)
      | (with_reducible exact ih5 _ _ _ _ _ _ _ _)
      | (with_reducible exact ih6 _ _ _ _ _ _ _ _)
      | (with_reducible exact ih7 _ _ _ _ _ _ _ _)
      | (with_reducible exact ih8 _ _ _ _ _ _ _ _ _ _)
      | (with_reducible exact ih9 _ _ _ _ _ _ _ _ _ _ _ _)
      | (with_reducible exact ih10 _ _ _ _ _ _ _ _ _ _ _ _ _ _)
      | (with_reducible exact impl_HalvesOfHeard.mono _ _ _)
      | (with_reducible exact impl_HeardFrom.mono _ _ _ _)
      | (with_reducible exact impl_IsHeard.mono _ _ _)
      | (with_reducible exact impl_KnownAfter.mono _ _ _)
      | (with_reducible exact impl_LongestUnknown.mono _ _)
      | (with_reducible exact impl_NextHeard.mono _ _ _)
      | (with_reducible exact laws_kHas.mono _ _ _)
      | (with_reducible exact laws_kSame.mono _ _ _)
      | (with_reducible exact spec_HalvesOfHeard.mono _ _ _)
      | (with_reducible exact spec_IsHeard.mono _ _ _)
      | (with_reducible exact spec_KnownAfter.mono _ _ _)
      | (with_reducible exact spec_LongestUnknown.mono _ _)
      | (with_reducible exact spec_NextHeard.mono _ _ _)
      | (with_reducible exact LeO.refl _)
      | (with_reducible exact LeO.none _)
      | (with_reducible refine LeO.ite ?_ ?_)
      | (with_reducible refine LeO.bind ?_ (fun _ => ?_))
      | exact ih0 _ _ _ _ _ _ _ _ _ _
      | exact ih1 _ _ _
      | exact ih2 _ _ _ _ _ _ _ _ _
      | exact ih3 _ _ _ _
      | exact ih4 _ _ _ _
      | exact ih5 _ _ _ _ _ _ _ _
      | exact ih6 _ _ _ _ _ _ _ _
      | exact ih7 _ _ _ _ _ _ _ _
      | exact ih8 _ _ _ _ _ _ _ _ _ _
      | exact ih9 _ _ _ _ _ _ _ _ _ _ _ _
      | exact ih10 _ _ _ _ _ _ _ _ _ _ _ _ _ _
      | exact impl_HalvesOfHeard.mono _ _ _
      | exact impl_HeardFrom.mono _ _ _ _
      | exact impl_IsHeard.mono _ _ _
      | exact impl_KnownAfter.mono _ _ _
      | exact impl_LongestUnknown.mono _ _
      | exact impl_NextHeard.mono _ _ _
      | exact laws_kHas.mono _ _ _
      | exact laws_kSame.mono _ _ _
      | exact spec_HalvesOfHeard.mono _ _ _
      | exact spec_IsHeard.mono _ _ _
      | exact spec_KnownAfter.mono _ _ _
      | exact spec_LongestUnknown.mono _ _
      | exact spec_NextHeard.mono _ _ _
      | exact LeO.none _
      | refine LeO.ite ?_ ?_
      | refine LeO.bind ?_ (fun _ => ?_)
theorem laws_FnStrokesHeardOfAll.j0_no {k : Nat} {x0 : Int} {x1 : List Int} {x2 : Int} {x3 : Int} {x4 : Int} {x5 : List Int} {x6 : Bool} {x7 : Bool} {x8 : List Int} (h : laws_FnStrokesHeardOfAll.j0 k x0 x1 x2 x3 x4 x5 x6 x7 x8 true = some true) : False := by
  cases k with
  | zero => simp [laws_FnStrokesHeardOfAll.j0] at h
  | succ k => rw [laws_FnStrokesHeardOfAll.j0, if_pos rfl] at h; cases h
theorem laws_FnStrokesHeardOfAll.j1_no {k : Nat} {x0 : Int} {x1 : List Int} {x2 : Int} {x3 : Int} {x4 : Int} {x5 : List Int} {x6 : List Int} (h : laws_FnStrokesHeardOfAll.j1 k x0 x1 x2 x3 x4 x5 x6 true = some true) : False := by
  cases k with
  | zero => simp [laws_FnStrokesHeardOfAll.j1] at h
  | succ k => rw [laws_FnStrokesHeardOfAll.j1, if_pos rfl] at h; cases h
theorem laws_FnStrokesHeardOfAll.j4_no {k : Nat} {x0 : Int} {x1 : List Int} {x2 : Int} {x3 : Int} {x4 : Int} {x5 : List Int} {x6 : Int} {x7 : List Int} {x8 : List Int} {x9 : Int} {x10 : Int} (h : laws_FnStrokesHeardOfAll.j4 k x0 x1 x2 x3 x4 x5 x6 x7 x8 x9 x10 true = some true) : False := by
  cases k with
  | zero => simp [laws_FnStrokesHeardOfAll.j4] at h
  | succ k => rw [laws_FnStrokesHeardOfAll.j4, if_pos rfl] at h; cases h
theorem laws_FnStrokesHeardOfAll.j7_no {k : Nat} {x0 : Int} {x1 : Int} {x2 : Int} {x3 : Int} {x4 : Bool} {x5 : List Int} {x6 : Int} {x7 : Bool} (h : laws_FnStrokesHeardOfAll.j7 k x0 x1 x2 x3 x4 x5 x6 x7 true = some true) : False := by
  cases k with
  | zero => simp [laws_FnStrokesHeardOfAll.j7] at h
  | succ k => rw [laws_FnStrokesHeardOfAll.j7, if_pos rfl] at h; cases h
theorem laws_FnStrokesHeardOfAll.j8_no {k : Nat} {x0 : Int} {x1 : Int} {x2 : Int} {x3 : List Int} {x4 : Int} {x5 : Bool} {x6 : List Int} (h : laws_FnStrokesHeardOfAll.j8 k x0 x1 x2 x3 x4 x5 x6 true = some true) : False := by
  cases k with
  | zero => simp [laws_FnStrokesHeardOfAll.j8] at h
  | succ k => rw [laws_FnStrokesHeardOfAll.j8, if_pos rfl] at h; cases h
set_option maxHeartbeats 8000000 in
set_option maxRecDepth 100000 in
theorem laws_FnStrokesHeardOfAll.calls (k : Nat) (a0 : Int) (A1 : Option Addr) (c1 : Nat) (l1 : List Int) (a2 : Int) (a3 : Int) (a4 : Int) (w : World) (hr1 : Kd.C (Kd.int .i64) w A1 l1.length l1) (hc1 : l1.length ≤ c1) (h : laws_FnStrokesHeardOfAll.f k a0 l1 a2 a3 a4 = some true) :
    Calls Try.prog 3 #[.int .i64 a0, .slice A1 l1.length c1, .int .i64 a2, .int .i64 a3, .int .i64 a4] w fun e w' => e = .returned (.bool true) ∧ Below w.heap.size w w' := by
  have HR1 := Aside0.mk hr1
  have HC1 := Aside0.mk hc1
  clear hr1 hc1
  have HB := Aside0.mk (Below.refl w.heap.size w)
  have H : (if (l1.length : Int) > 10000 then (some true) else ((impl_HalvesOfHeard.f k a0 l1).bind fun bt286 => ((spec_HalvesOfHeard.f k a0 l1).bind fun bt290 => ((impl_IsHeard.f k a0 l1).bind fun bt294 => ((spec_IsHeard.f k a0 l1).bind fun bt296 => ((impl_NextHeard.f k a0 l1).bind fun bt298 => ((spec_NextHeard.f k a0 l1).bind fun bt302 => (if (bt286.2 != bt290.2) = true then (laws_FnStrokesHeardOfAll.j0 k a0 l1 a2 a3 a4 bt286.1 bt286.2 bt294.1 bt298.1 true) else ((laws_kSame.f k bt286.1 bt290.1).bind fun t306 => (if t306 = true then (if (bt294.2 != bt296.2) = true then (laws_FnStrokesHeardOfAll.j0 k a0 l1 a2 a3 a4 bt286.1 bt286.2 bt294.1 bt298.1 true) else (if (bt294.1 != bt296.1) = true then (laws_FnStrokesHeardOfAll.j0 k a0 l1 a2 a3 a4 bt286.1 bt286.2 bt294.1 bt298.1 true) else (if (bt298.2 != bt302.2) = true then (laws_FnStrokesHeardOfAll.j0 k a0 l1 a2 a3 a4 bt286.1 bt286.2 bt294.1 bt298.1 true) else ((laws_kSame.f k bt298.1 bt302.1).bind fun t307 => (if t307 = true then (if (bt294.2 != bt286.2) = true then (laws_FnStrokesHeardOfAll.j0 k a0 l1 a2 a3 a4 bt286.1 bt286.2 bt294.1 bt298.1 true) else (laws_FnStrokesHeardOfAll.j0 k a0 l1 a2 a3 a4 bt286.1 bt286.2 bt294.1 bt298.1 (bt298.2 != bt286.2))) else (laws_FnStrokesHeardOfAll.j0 k a0 l1 a2 a3 a4 bt286.1 bt286.2 bt294.1 bt298.1 true)))))) else (laws_FnStrokesHeardOfAll.j0 k a0 l1 a2 a3 a4 bt286.1 bt286.2 bt294.1 bt298.1 true))))))))))) = some true := h
  clear h
  by_cases c6 : (l1.length : Int) > 10000
  · rw [if_pos c6] at H
    have c6b0 : decide (10000 < (l1.length : Int)) = true := decide_eq_true c6
    have c6b1 : decide (10000 < l1.length) = true := decide_eq_true (by omega)
    clear c6
    clear H
    go_enter Try.func3, Try.ntmps3
    go_wp2
    go_ret
    exact ⟨by first | rfl | (simp [errW_none, errW_some] <;> rfl) | (simp [*, errW_none, errW_some] <;> rfl), by repeat (first | (with_reducible first | exact HB.out | apply below_alloc | apply pw_below_drewN | apply below_drew1) | exact HB.out)⟩
  · rw [if_neg c6] at H
    have c6b0 : decide (10000 < (l1.length : Int)) = false := decide_eq_false c6
    have c6b1 : decide (10000 < l1.length) = false := decide_eq_false (by omega)
    clear c6
    replace H := Option.bind_eq_some_iff.mp H
    obtain ⟨⟨t286, t287⟩, A70, H⟩ := H
    (try dsimp only at H)
    have A7 := Aside0.mk A70
    clear A70
    replace H := Option.bind_eq_some_iff.mp H
    obtain ⟨⟨t290, t291⟩, A80, H⟩ := H
    (try dsimp only at H)
    have A8 := Aside0.mk A80
    clear A80
    replace H := Option.bind_eq_some_iff.mp H
    obtain ⟨⟨t294, t295⟩, A90, H⟩ := H
    (try dsimp only at H)
    have A9 := Aside0.mk A90
    clear A90
    replace H := Option.bind_eq_some_iff.mp H
    obtain ⟨⟨t296, t297⟩, A100, H⟩ := H
    (try dsimp only at H)
    have A10 := Aside0.mk A100
    clear A100
    replace H := Option.bind_eq_some_iff.mp H
    obtain ⟨⟨t298, t299⟩, A110, H⟩ := H
    (try dsimp only at H)
    have A11 := Aside0.mk A110
    clear A110
    replace H := Option.bind_eq_some_iff.mp H
    obtain ⟨⟨t302, t303⟩, A120, H⟩ := H
    (try dsimp only at H)
    have A12 := Aside0.mk A120
    clear A120
    have HC13 := Aside0.mk H
    clear H
    go_enter Try.func3, Try.ntmps3
    go_upto_region 9 with (first | ((with_reducible refine gate_callee (f := 4) rfl ?_); refine goesL_ (some 58) rfl rfl Try.func4 (by kernel_rfl) rfl #[.int .i64 a0, .slice A1 l1.length c1] rfl (by (try simp only [List.map_toArray, List.map_cons, List.map_nil]); first | done | rfl | (simp only [List.length_drop, List.length_take]; rfl)) ?_; (with_reducible refine (impl_HalvesOfHeard.calls k a0 _ _ l1 t286 t287 _ ?side1 ?side2 A7.out).mono ?_); (case side1 => repeat (first | exact HR1.out | (with_reducible refine Kd.C_alloc ?_ _) | (with_reducible refine Kd.C_drewN ?_ _) | (with_reducible refine Kd.C_drew ?_))); (case side2 => exact HC1.out); rintro e w14 ⟨v288, rfl, ho0, hb⟩; refine ⟨_, rfl, ?_⟩; have n0_ := Aside0.mk (Kd.R_lower ho0 (below_size (by repeat (first | (with_reducible first | exact HB.out | apply below_alloc | apply pw_below_drewN | apply below_drew1) | exact HB.out)))); replace HB := zB HB hb; have HO289 := n0_; clear n0_; (try clear hb); (try clear hb2); (try clear hk); (try clear hi); (try clear ho0)) | ((with_reducible refine gate_callee (f := 5) rfl ?_); refine goesL_ (some 64) rfl rfl Try.func5 (by kernel_rfl) rfl #[.int .i64 a0, .slice A1 l1.length c1] rfl (by (try simp only [List.map_toArray, List.map_cons, List.map_nil]); first | done | rfl | (simp only [List.length_drop, List.length_take]; rfl)) ?_; (with_reducible refine (spec_HalvesOfHeard.calls k a0 _ _ l1 t290 t291 _ ?side1 ?side2 A8.out).mono ?_); (case side1 => repeat (first | exact (Kd.C_below HR1.out HB.out) | (with_reducible refine Kd.C_alloc ?_ _) | (with_reducible refine Kd.C_drewN ?_ _) | (with_reducible refine Kd.C_drew ?_))); (case side2 => exact HC1.out); rintro e w15 ⟨v292, rfl, ho0, hb⟩; refine ⟨_, rfl, ?_⟩; have n0_ := Aside0.mk (Kd.R_elder' (by (with_reducible repeat (first | apply Kd.R_alloc | apply Kd.R_drewN | apply Kd.R_drew)); exact HO289.out) (Kd.R_base ho0) hb); have n1_ := Aside0.mk (Kd.R_lower (Kd.R_new' ho0 (Kd.R_lt (by (with_reducible repeat (first | apply Kd.R_alloc | apply Kd.R_drewN | apply Kd.R_drew)); exact HO289.out))) (below_size (by repeat (first | (with_reducible first | exact HB.out | apply below_alloc | apply pw_below_drewN | apply below_drew1) | exact HB.out)))); replace HB := zB HB hb; clear HO289; have HO289 := n0_; have HO293 := n1_; clear n0_ n1_; (try clear hb); (try clear hb2); (try clear hk); (try clear hi); (try clear ho0)) | ((with_reducible refine gate_callee (f := 6) rfl ?_); refine goesL_ (some 70) rfl rfl Try.func6 (by kernel_rfl) rfl #[.int .i64 a0, .slice A1 l1.length c1] rfl (by (try simp only [List.map_toArray, List.map_cons, List.map_nil]); first | done | rfl | (simp only [List.length_drop, List.length_take]; rfl)) ?_; (with_reducible refine (impl_IsHeard.calls k a0 _ _ l1 t294 t295 _ ?side1 ?side2 A9.out).mono ?_); (case side1 => repeat (first | exact (Kd.C_below HR1.out HB.out) | (with_reducible refine Kd.C_alloc ?_ _) | (with_reducible refine Kd.C_drewN ?_ _) | (with_reducible refine Kd.C_drew ?_))); (case side2 => exact HC1.out); rintro e w16 ⟨rfl, hb⟩; refine ⟨_, rfl, ?_⟩; have n0_ := Aside0.mk (Kd.R_below (by (with_reducible repeat (first | apply Kd.R_alloc | apply Kd.R_drewN | apply Kd.R_drew)); exact HO289.out) hb); have n1_ := Aside0.mk (Kd.R_below (by (with_reducible repeat (first | apply Kd.R_alloc | apply Kd.R_drewN | apply Kd.R_drew)); exact HO293.out) hb); replace HB := zB HB hb; clear HO289; clear HO293; have HO289 := n0_; have HO293 := n1_; clear n0_ n1_; clear hb) | ((with_reducible refine gate_callee (f := 7) rfl ?_); refine goesL_ (some 76) rfl rfl Try.func7 (by kernel_rfl) rfl #[.int .i64 a0, .slice A1 l1.length c1] rfl (by (try simp only [List.map_toArray, List.map_cons, List.map_nil]); first | done | rfl | (simp only [List.length_drop, List.length_take]; rfl)) ?_; (with_reducible refine (spec_IsHeard.calls k a0 _ _ l1 t296 t297 _ ?side1 ?side2 A10.out).mono ?_); (case side1 => repeat (first | exact (Kd.C_below HR1.out HB.out) | (with_reducible refine Kd.C_alloc ?_ _) | (with_reducible refine Kd.C_drewN ?_ _) | (with_reducible refine Kd.C_drew ?_))); (case side2 => exact HC1.out); rintro e w17 ⟨rfl, hb⟩; refine ⟨_, rfl, ?_⟩; have n0_ := Aside0.mk (Kd.R_below (by (with_reducible repeat (first | apply Kd.R_alloc | apply Kd.R_drewN | apply Kd.R_drew)); exact HO289.out) hb); have n1_ := Aside0.mk (Kd.R_below (by (with_reducible repeat (first | apply Kd.R_alloc | apply Kd.R_drewN | apply Kd.R_drew)); exact HO293.out) hb); replace HB := zB HB hb; clear HO289; clear HO293; have HO289 := n0_; have HO293 := n1_; clear n0_ n1_; clear hb) | ((with_reducible refine gate_callee (f := 8) rfl ?_); refine goesL_ (some 82) rfl rfl Try.func8 (by kernel_rfl) rfl #[.int .i64 a0, .slice A1 l1.length c1] rfl (by (try simp only [List.map_toArray, List.map_cons, List.map_nil]); first | done | rfl | (simp only [List.length_drop, List.length_take]; rfl)) ?_; (with_reducible refine (impl_NextHeard.calls k a0 _ _ l1 t298 t299 _ ?side1 ?side2 A11.out).mono ?_); (case side1 => repeat (first | exact (Kd.C_below HR1.out HB.out) | (with_reducible refine Kd.C_alloc ?_ _) | (with_reducible refine Kd.C_drewN ?_ _) | (with_reducible refine Kd.C_drew ?_))); (case side2 => exact HC1.out); rintro e w18 ⟨v300, rfl, ho0, hb⟩; refine ⟨_, rfl, ?_⟩; have n0_ := Aside0.mk (Kd.R_elder' (by (with_reducible repeat (first | apply Kd.R_alloc | apply Kd.R_drewN | apply Kd.R_drew)); exact HO289.out) (Kd.R_base ho0) hb); have n1_ := Aside0.mk (Kd.R_elder' (by (with_reducible repeat (first | apply Kd.R_alloc | apply Kd.R_drewN | apply Kd.R_drew)); exact HO293.out) (Kd.R_base ho0) hb); have n2_ := Aside0.mk (Kd.R_lower (Kd.R_new' (Kd.R_new' ho0 (Kd.R_lt (by (with_reducible repeat (first | apply Kd.R_alloc | apply Kd.R_drewN | apply Kd.R_drew)); exact HO289.out))) (Kd.R_lt (by (with_reducible repeat (first | apply Kd.R_alloc | apply Kd.R_drewN | apply Kd.R_drew)); exact HO293.out))) (below_size (by repeat (first | (with_reducible first | exact HB.out | apply below_alloc | apply pw_below_drewN | apply below_drew1) | exact HB.out)))); replace HB := zB HB hb; clear HO289; clear HO293; have HO289 := n0_; have HO293 := n1_; have HO301 := n2_; clear n0_ n1_ n2_; (try clear hb); (try clear hb2); (try clear hk); (try clear hi); (try clear ho0)) | ((with_reducible refine gate_callee (f := 9) rfl ?_); refine goesL_ (some 88) rfl rfl Try.func9 (by kernel_rfl) rfl #[.int .i64 a0, .slice A1 l1.length c1] rfl (by (try simp only [List.map_toArray, List.map_cons, List.map_nil]); first | done | rfl | (simp only [List.length_drop, List.length_take]; rfl)) ?_; (with_reducible refine (spec_NextHeard.calls k a0 _ _ l1 t302 t303 _ ?side1 ?side2 A12.out).mono ?_); (case side1 => repeat (first | exact (Kd.C_below HR1.out HB.out) | (with_reducible refine Kd.C_alloc ?_ _) | (with_reducible refine Kd.C_drewN ?_ _) | (with_reducible refine Kd.C_drew ?_))); (case side2 => exact HC1.out); rintro e w19 ⟨v304, rfl, ho0, hb⟩; refine ⟨_, rfl, ?_⟩; have n0_ := Aside0.mk (Kd.R_elder' (by (with_reducible repeat (first | apply Kd.R_alloc | apply Kd.R_drewN | apply Kd.R_drew)); exact HO289.out) (Kd.R_base ho0) hb); have n1_ := Aside0.mk (Kd.R_elder' (by (with_reducible repeat (first | apply Kd.R_alloc | apply Kd.R_drewN | apply Kd.R_drew)); exact HO293.out) (Kd.R_base ho0) hb); have n2_ := Aside0.mk (Kd.R_elder' (by (with_reducible repeat (first | apply Kd.R_alloc | apply Kd.R_drewN | apply Kd.R_drew)); exact HO301.out) (Kd.R_base ho0) hb); have n3_ := Aside0.mk (Kd.R_lower (Kd.R_new' (Kd.R_new' (Kd.R_new' ho0 (Kd.R_lt (by (with_reducible repeat (first | apply Kd.R_alloc | apply Kd.R_drewN | apply Kd.R_drew)); exact HO289.out))) (Kd.R_lt (by (with_reducible repeat (first | apply Kd.R_alloc | apply Kd.R_drewN | apply Kd.R_drew)); exact HO293.out))) (Kd.R_lt (by (with_reducible repeat (first | apply Kd.R_alloc | apply Kd.R_drewN | apply Kd.R_drew)); exact HO301.out))) (below_size (by repeat (first | (with_reducible first | exact HB.out | apply below_alloc | apply pw_below_drewN | apply below_drew1) | exact HB.out)))); replace HB := zB HB hb; clear HO289; clear HO293; clear HO301; have HO289 := n0_; have HO293 := n1_; have HO301 := n2_; have HO305 := n3_; clear n0_ n1_ n2_ n3_; (try clear hb); (try clear hb2); (try clear hk); (try clear hi); (try clear ho0)))
    (try simp only [Act.put, List.setIfInBounds_toArray, List.set_cons_zero, List.set_cons_succ])
    go_cut [130] from 91 to 130 (fun v130 wc => ∃ (kq : Nat) (x130_12 : Bool), v130 = .bool x130_12 ∧ Aside0 (laws_FnStrokesHeardOfAll.j0 kq a0 l1 a2 a3 a4 t286 t287 t294 t298 x130_12 = some true) ∧ Aside0 (kq ≤ k) ∧ Aside0 (Kd.R (Kd.int .i64) 3 wc w.heap.size (fun k_ => some k_ ≠ (v300 : Value).ownBlock) v288 t286) ∧ Aside0 (Kd.R (Kd.int .i64) 3 wc w.heap.size (fun k_ => some k_ ≠ (v288 : Value).ownBlock) v300 t298) ∧ Aside0 (Below w.heap.size w wc))
    case first =>
      have H := HC13.out
      clear HC13
      by_cases c20 : (t287 != t291) = true
      · rw [if_pos c20] at H
        exact (laws_FnStrokesHeardOfAll.j0_no H).elim
      · rw [if_neg c20] at H
        have c20b0 : (t287 != t291) = false := by simpa using c20
        (try (have c20b1 : decide (t287 = t291) = true := by simpa using c20))
        (try (have c20b2 : (t287 == t291) = true := by simpa using c20))
        clear c20
        (first | rw [c20b0] | (simp only [i64_w, i32_w]; rw [c20b0]) | skip)
        replace H := Option.bind_eq_some_iff.mp H
        obtain ⟨t306, A210, H⟩ := H
        (try dsimp only at H)
        have A21 := Aside0.mk A210
        clear A210
        by_cases c22 : t306 = true
        · subst c22
          have H1 := H
          rw [if_pos rfl] at H1
          clear H
          have H := H1
          clear H1
          by_cases c23 : (t295 != t297) = true
          · rw [if_pos c23] at H
            exact (laws_FnStrokesHeardOfAll.j0_no H).elim
          · rw [if_neg c23] at H
            have c23b0 : (t295 != t297) = false := by simpa using c23
            (try (have c23b1 : decide (t295 = t297) = true := by simpa using c23))
            (try (have c23b2 : (t295 == t297) = true := by simpa using c23))
            clear c23
            by_cases c26 : (t294 != t296) = true
            · rw [if_pos c26] at H
              exact (laws_FnStrokesHeardOfAll.j0_no H).elim
            · rw [if_neg c26] at H
              have c26b0 : (t294 != t296) = false := by simpa using c26
              (try (have c26b1 : decide (t294 = t296) = true := by simpa using c26))
              (try (have c26b2 : (t294 == t296) = true := by simpa using c26))
              clear c26
              by_cases c29 : (t299 != t303) = true
              · rw [if_pos c29] at H
                exact (laws_FnStrokesHeardOfAll.j0_no H).elim
              · rw [if_neg c29] at H
                have c29b0 : (t299 != t303) = false := by simpa using c29
                (try (have c29b1 : decide (t299 = t303) = true := by simpa using c29))
                (try (have c29b2 : (t299 == t303) = true := by simpa using c29))
                clear c29
                replace H := Option.bind_eq_some_iff.mp H
                obtain ⟨t307, A320, H⟩ := H
                (try dsimp only at H)
                have A32 := Aside0.mk A320
                clear A320
                by_cases c33 : t307 = true
                · subst c33
                  have H1 := H
                  rw [if_pos rfl] at H1
                  clear H
                  have H := H1
                  clear H1
                  by_cases c34 : (t295 != t287) = true
                  · rw [if_pos c34] at H
                    exact (laws_FnStrokesHeardOfAll.j0_no H).elim
                  · rw [if_neg c34] at H
                    have c34b0 : (t295 != t287) = false := by simpa using c34
                    (try (have c34b1 : decide (t295 = t287) = true := by simpa using c34))
                    (try (have c34b2 : (t295 == t287) = true := by simpa using c34))
                    clear c34
                    have H' := Aside0.mk H
                    clear H
                    obtain ⟨Ao39, co39, eo39⟩ := Kd.R_slice HO289.out
                    subst eo39
                    obtain ⟨Ao40, co40, eo40⟩ := Kd.R_slice HO293.out
                    subst eo40
                    go_wp2_with (first | (go_at_call 10; (with_reducible refine (laws_kSame.calls k _ _ t286 _ _ t290 true _ ?side1 ?side2 ?side3 ?side4 A21.out).mono ?_); (case side1 => repeat (first | exact (Kd.R_reads' HO289.out).2.2 | (with_reducible refine Kd.C_alloc ?_ _) | (with_reducible refine Kd.C_drewN ?_ _) | (with_reducible refine Kd.C_drew ?_))); (case side2 => exact (Kd.R_reads' HO289.out).2.1); (case side3 => repeat (first | exact (Kd.R_reads' HO293.out).2.2 | (with_reducible refine Kd.C_alloc ?_ _) | (with_reducible refine Kd.C_drewN ?_ _) | (with_reducible refine Kd.C_drew ?_))); (case side4 => exact (Kd.R_reads' HO293.out).2.1); rintro e w' ⟨rfl, ⟨nd, rfl⟩⟩; obtain ⟨Ao41, co41, eo41⟩ := Kd.R_slice HO301.out; subst eo41; obtain ⟨Ao42, co42, eo42⟩ := Kd.R_slice HO305.out; subst eo42) | (go_at_call 10; (with_reducible refine (laws_kSame.calls k _ _ t298 _ _ t302 true _ ?side1 ?side2 ?side3 ?side4 A32.out).mono ?_); (case side1 => repeat (first | exact (Kd.R_reads' HO301.out).2.2 | (with_reducible refine Kd.C_alloc ?_ _) | (with_reducible refine Kd.C_drewN ?_ _) | (with_reducible refine Kd.C_drew ?_))); (case side2 => exact (Kd.R_reads' HO301.out).2.1); (case side3 => repeat (first | exact (Kd.R_reads' HO305.out).2.2 | (with_reducible refine Kd.C_alloc ?_ _) | (with_reducible refine Kd.C_drewN ?_ _) | (with_reducible refine Kd.C_drew ?_))); (case side4 => exact (Kd.R_reads' HO305.out).2.1); rintro e w' ⟨rfl, ⟨nd, rfl⟩⟩))
                    go_meet
                    case rel => exact ⟨_, ((t299 != t287)), (by first | rfl | (simp; done) | (simp [*]; done)), H', ⟨by first | omega | exact Nat.le_refl _⟩, ⟨by (with_reducible repeat (first | apply Kd.R_alloc | apply Kd.R_drewN | apply Kd.R_drew)); exact Kd.R_mono HO289.out (fun _ hk => hk.1.2)⟩, ⟨by (with_reducible repeat (first | apply Kd.R_alloc | apply Kd.R_drewN | apply Kd.R_drew)); exact Kd.R_mono HO301.out (fun _ hk => hk.1.1.2)⟩, ⟨by repeat (first | (with_reducible first | exact HB.out | apply below_alloc | apply pw_below_drewN | apply below_drew1) | exact HB.out)⟩⟩
                · replace c33 := Bool.eq_false_iff.mpr c33
                  subst c33
                  have H1 := H
                  rw [if_neg (show ¬ (false = true) by decide)] at H1
                  clear H
                  have H := H1
                  exact (laws_FnStrokesHeardOfAll.j0_no H).elim
        · replace c22 := Bool.eq_false_iff.mpr c22
          subst c22
          have H1 := H
          rw [if_neg (show ¬ (false = true) by decide)] at H1
          clear H
          have H := H1
          exact (laws_FnStrokesHeardOfAll.j0_no H).elim
    case rest =>
      clear HC13
      try clear c1
      try clear c2
      try clear p2
      try clear c3
      try clear c4
      try clear c5
      try clear c6
      try clear c6b0
      try clear c6b1
      try clear c7
      try clear c8
      try clear c9
      try clear c20
      try clear c20b0
      try clear c20b1
      try clear c20b2
      try clear c22
      try clear c23
      try clear c23b0
      try clear c23b1
      try clear c23b2
      try clear c26
      try clear c26b0
      try clear c26b1
      try clear c26b2
      try clear c29
      try clear c29b0
      try clear c29b1
      try clear c29b2
      try clear c33
      try clear c34
      try clear c34b0
      try clear c34b1
      try clear c34b2
      obtain ⟨kq, x130_12, rfl, HA, HJ12, HO_11, HO_19, HB⟩ := hcut
      cases kq with
      | zero => exact absurd HA.out (by simp [laws_FnStrokesHeardOfAll.j0])
      | succ kj12 =>
        have H := HA.out
        clear HA
        simp only [laws_FnStrokesHeardOfAll.j0] at H
        by_cases c49 : x130_12 = true
        · subst c49
          have H1 := H
          rw [if_pos rfl] at H1
          clear H
          have H := H1
          clear H1
          exact absurd H (by simp)
        · replace c49 := Bool.eq_false_iff.mpr c49
          subst c49
          have H1 := H
          rw [if_neg (show ¬ (false = true) by decide)] at H1
          clear H
          have H := H1
          clear H1
          have HC50 := Aside0.mk H
          clear H
          go_upto_if 131 with (fail)
          go_cut [10, 23, 24, 25, 26, 28, 29, 30, 32] from 131 to 215 (fun v10 v23 v24 v25 v26 v28 v29 v30 v32 wc => ∃ (kq : Nat), Aside0 (laws_FnStrokesHeardOfAll.j6 kq a2 a3 a4 = some true) ∧ Aside0 (kq ≤ kj12) ∧ Aside0 (Below w.heap.size w wc))
          case first =>
            have H := HC50.out
            clear HC50
            by_cases c51 : t287 = true
            · subst c51
              have H1 := H
              rw [if_pos rfl] at H1
              clear H
              have H := H1
              clear H1
              have HC52 := Aside0.mk H
              clear H
              go_upto_region 12 with (fail)
              go_cut [143] from 132 to 143 (fun v143 wc => ∃ (kq : Nat) (x143_51 : Bool), v143 = .bool x143_51 ∧ Aside0 (laws_FnStrokesHeardOfAll.j1 kq a0 l1 a2 a3 a4 t286 t298 x143_51 = some true) ∧ Aside0 (kq ≤ kj12) ∧ Aside0 (Kd.R (Kd.int .i64) 3 wc w.heap.size (fun k_ => some k_ ≠ (v300 : Value).ownBlock) v288 t286) ∧ Aside0 (Kd.R (Kd.int .i64) 3 wc w.heap.size (fun k_ => some k_ ≠ (v288 : Value).ownBlock) v300 t298) ∧ Aside0 (Below w.heap.size w wc))
              case first =>
                have H := HC52.out
                clear HC52
                by_cases c53 : (t294 != (decide ((t286.length : Int) > 0))) = true
                · rw [if_pos c53] at H
                  exact (laws_FnStrokesHeardOfAll.j1_no H).elim
                · rw [if_neg c53] at H
                  have c53b0 : (t294 != (decide ((t286.length : Int) > 0))) = false := by simpa using c53
                  (try (have c53b1 : decide (t294 = (decide ((t286.length : Int) > 0))) = true := by simpa using c53))
                  (try (have c53b2 : (t294 == (decide ((t286.length : Int) > 0))) = true := by simpa using c53))
                  clear c53
                  have c53e : t294 = (decide ((t286.length : Int) > 0)) := by simpa using c53b0
                  (try clear c53b1); (try clear c53b2); clear c53b0; subst c53e
                  (first | rw [c53b0] | (simp only [i64_w, i32_w]; rw [c53b0]) | skip)
                  have H' := Aside0.mk H
                  clear H
                  obtain ⟨Ao55, co55, eo55⟩ := Kd.R_slice HO_11.out
                  subst eo55
                  obtain ⟨Ao56, co56, eo56⟩ := Kd.R_slice HO_19.out
                  subst eo56
                  go_wp2
                  go_meet
                  case rel => exact ⟨_, (((decide ((t286.length : Int) > 0)) != (decide ((t298.length : Int) > 0)))), (by first | rfl | (simp; done) | (simp [*]; done) | (simp; cases decide (0 < t286.length) <;> cases decide (0 < t298.length) <;> rfl)), H', ⟨by have := HJ12.out; first | omega | exact Nat.le_refl _⟩, ⟨by (with_reducible repeat (first | apply Kd.R_alloc | apply Kd.R_drewN | apply Kd.R_drew)); exact HO_11.out⟩, ⟨by (with_reducible repeat (first | apply Kd.R_alloc | apply Kd.R_drewN | apply Kd.R_drew)); exact HO_19.out⟩, ⟨by repeat (first | (with_reducible first | exact HB.out | apply below_alloc | apply pw_below_drewN | apply below_drew1) | exact HB.out)⟩⟩
              case rest =>
                clear HC52
                try clear c1
                try clear c2
                try clear p2
                try clear c3
                try clear c4
                try clear c5
                try clear c6
                try clear c6b0
                try clear c6b1
                try clear c7
                try clear c8
                try clear c9
                try clear c20
                try clear c20b0
                try clear c20b1
                try clear c20b2
                try clear c22
                try clear c23
                try clear c23b0
                try clear c23b1
                try clear c23b2
                try clear c26
                try clear c26b0
                try clear c26b1
                try clear c26b2
                try clear c29
                try clear c29b0
                try clear c29b1
                try clear c29b2
                try clear c33
                try clear c34
                try clear c34b0
                try clear c34b1
                try clear c34b2
                try clear c49
                try clear c51
                try clear c53
                try clear c53b0
                try clear c53b1
                try clear c53b2
                try clear p2
                obtain ⟨kq, x143_51, rfl, HA, HJ51, HO_11, HO_19, HB⟩ := hcut
                cases kq with
                | zero => exact absurd HA.out (by simp [laws_FnStrokesHeardOfAll.j1])
                | succ kj51 =>
                  have H := HA.out
                  clear HA
                  simp only [laws_FnStrokesHeardOfAll.j1] at H
                  by_cases c57 : x143_51 = true
                  · subst c57
                    have H1 := H
                    rw [if_pos rfl] at H1
                    clear H
                    have H := H1
                    clear H1
                    exact absurd H (by simp)
                  · replace c57 := Bool.eq_false_iff.mpr c57
                    subst c57
                    have H1 := H
                    rw [if_neg (show ¬ (false = true) by decide)] at H1
                    clear H
                    have H := H1
                    clear H1
                    have H' := Aside0.mk H
                    clear H
                    go_wp2
                    go_loopg [23] kj51 (fun kq v23 w' => ∃ (x23_3 : Int), v23 = .int .i64 x23_3 ∧ Aside0 (laws_FnStrokesHeardOfAll.l0 kq a0 l1 a2 a3 a4 t286 t298 x23_3 = some true) ∧ Aside0 (kq ≤ kj51) ∧ Aside0 (Kd.R (Kd.int .i64) 3 w' w.heap.size (fun k_ => some k_ ≠ (v300 : Value).ownBlock) v288 t286) ∧ Aside0 (Kd.R (Kd.int .i64) 3 w' w.heap.size (fun k_ => some k_ ≠ (v288 : Value).ownBlock) v300 t298) ∧ Aside0 (Below w.heap.size w w'))
                    case atStart => exact ⟨(0), (by first | rfl | (simp; done) | (simp [*]; done)), H', ⟨Nat.le_refl _⟩, ⟨by (with_reducible repeat (first | apply Kd.R_alloc | apply Kd.R_drewN | apply Kd.R_drew)); exact HO_11.out⟩, ⟨by (with_reducible repeat (first | apply Kd.R_alloc | apply Kd.R_drewN | apply Kd.R_drew)); exact HO_19.out⟩, ⟨by repeat (first | (with_reducible first | exact HB.out | apply below_alloc | apply pw_below_drewN | apply below_drew1) | exact HB.out)⟩⟩
                    case round =>
                      clear H'
                      try clear c1
                      try clear c2
                      try clear p2
                      try clear c3
                      try clear c4
                      try clear c5
                      try clear c6
                      try clear c6b0
                      try clear c6b1
                      try clear c7
                      try clear c8
                      try clear c9
                      try clear c20
                      try clear c20b0
                      try clear c20b1
                      try clear c20b2
                      try clear c22
                      try clear c23
                      try clear c23b0
                      try clear c23b1
                      try clear c23b2
                      try clear c26
                      try clear c26b0
                      try clear c26b1
                      try clear c26b2
                      try clear c29
                      try clear c29b0
                      try clear c29b1
                      try clear c29b2
                      try clear c33
                      try clear c34
                      try clear c34b0
                      try clear c34b1
                      try clear c34b2
                      try clear c49
                      try clear c51
                      try clear c53
                      try clear c53b0
                      try clear c53b1
                      try clear c53b2
                      try clear c57
                      try clear p2
                      obtain ⟨x23_3, rfl, HA, HK3, HO_11, HO_19, HB⟩ := hrel
                      cases gk with
                      | zero => exact absurd HA.out (by simp [laws_FnStrokesHeardOfAll.l0])
                      | succ k3 =>
                        have H := HA.out
                        clear HA
                        simp only [laws_FnStrokesHeardOfAll.l0] at H
                        by_cases c58 : x23_3 < (wrap64 (2 * a0))
                        · rw [if_pos c58] at H
                          have c58b0 : decide (x23_3 < (wrap64 (2 * a0))) = true := decide_eq_true c58
                          clear c58
                          replace H := Option.bind_eq_some_iff.mp H
                          obtain ⟨⟨t308, t309⟩, A590, H⟩ := H
                          (try dsimp only at H)
                          have A59 := Aside0.mk A590
                          clear A590
                          by_cases c60 : t309 = true
                          · subst c60
                            have H1 := H
                            rw [if_pos rfl] at H1
                            clear H
                            have H := H1
                            clear H1
                            replace H := Option.bind_eq_some_iff.mp H
                            obtain ⟨t312, A610, H⟩ := H
                            (try dsimp only at H)
                            have A61 := Aside0.mk A610
                            clear A610
                            replace H := Option.bind_eq_some_iff.mp H
                            obtain ⟨t313, A620, H⟩ := H
                            (try dsimp only at H)
                            have A62 := Aside0.mk A620
                            clear A620
                            by_cases c63 : (t312 != t313) = true
                            · rw [if_pos c63] at H
                              have c63b0 : (t312 != t313) = true := c63
                              (try (have c63b1 : decide (t312 = t313) = false := by simpa using c63))
                              (try (have c63b2 : (t312 == t313) = false := by simpa using c63))
                              (try (have c63b3 : ¬ (t312 = t313) := by simpa using c63))
                              clear c63
                              exact absurd H (by simp)
                            · rw [if_neg c63] at H
                              have c63b0 : (t312 != t313) = false := by simpa using c63
                              (try (have c63b1 : decide (t312 = t313) = true := by simpa using c63))
                              (try (have c63b2 : (t312 == t313) = true := by simpa using c63))
                              clear c63
                              have H' := Aside0.mk H
                              clear H
                              go_wp2_with (first | ((with_reducible refine gate_callee (f := 11) rfl ?_); refine goesL_ (some 155) rfl rfl Try.func11 (by kernel_rfl) rfl #[.int .i64 a0, .int .i64 x23_3, .int .i64 (l1.length : Int)] rfl (by (try simp only [List.map_toArray, List.map_cons, List.map_nil]); first | done | rfl | (simp only [List.length_drop, List.length_take]; rfl)) ?_; (with_reducible refine (impl_HeardFrom.calls k3 a0 x23_3 (l1.length : Int) t308 true _ A59.out).mono ?_); rintro e w64 ⟨v310, rfl, ho0, hb⟩; refine ⟨_, rfl, ?_⟩; have n0_ := Aside0.mk (Kd.R_elder' (by (with_reducible repeat (first | apply Kd.R_alloc | apply Kd.R_drewN | apply Kd.R_drew)); exact HO_11.out) (Kd.R_base ho0) hb); have n1_ := Aside0.mk (Kd.R_elder' (by (with_reducible repeat (first | apply Kd.R_alloc | apply Kd.R_drewN | apply Kd.R_drew)); exact HO_19.out) (Kd.R_base ho0) hb); have n2_ := Aside0.mk (Kd.R_lower (Kd.R_new' (Kd.R_new' ho0 (Kd.R_lt (by (with_reducible repeat (first | apply Kd.R_alloc | apply Kd.R_drewN | apply Kd.R_drew)); exact HO_11.out))) (Kd.R_lt (by (with_reducible repeat (first | apply Kd.R_alloc | apply Kd.R_drewN | apply Kd.R_drew)); exact HO_19.out))) (below_size (by repeat (first | (with_reducible first | exact HB.out | apply below_alloc | apply pw_below_drewN | apply below_drew1) | exact HB.out)))); replace HB := zB HB hb; clear HO_11; clear HO_19; have HO_11 := n0_; have HO_19 := n1_; have HO311 := n2_; clear n0_ n1_ n2_; (try clear hb); (try clear hb2); (try clear hk); (try clear hi); (try clear ho0); obtain ⟨Ao65, co65, eo65⟩ := Kd.R_slice HO_11.out; subst eo65) | (go_at_call 12; (with_reducible refine (laws_kHas.calls k3 _ _ t286 x23_3 t312 _ ?side1 ?side2 A61.out).mono ?_); (case side1 => repeat (first | exact (Kd.R_reads' HO_11.out).2.2 | (with_reducible refine Kd.C_alloc ?_ _) | (with_reducible refine Kd.C_drewN ?_ _) | (with_reducible refine Kd.C_drew ?_))); (case side2 => exact (Kd.R_reads' HO_11.out).2.1); rintro e w' ⟨rfl, ⟨nd, rfl⟩⟩; obtain ⟨Ao66, co66, eo66⟩ := Kd.R_slice HO311.out; subst eo66) | (go_at_call 10; (with_reducible refine (laws_kSame.calls k3 _ _ t308 _ _ l1 t313 _ ?side1 ?side2 ?side3 ?side4 A62.out).mono ?_); (case side1 => repeat (first | exact (Kd.R_reads' HO311.out).2.2 | (with_reducible refine Kd.C_alloc ?_ _) | (with_reducible refine Kd.C_drewN ?_ _) | (with_reducible refine Kd.C_drew ?_))); (case side2 => exact (Kd.R_reads' HO311.out).2.1); (case side3 => repeat (first | exact (Kd.C_below HR1.out (by repeat (first | (with_reducible first | exact HB.out | apply below_alloc | apply pw_below_drewN | apply below_drew1) | exact HB.out))) | (with_reducible refine Kd.C_alloc ?_ _) | (with_reducible refine Kd.C_drewN ?_ _) | (with_reducible refine Kd.C_drew ?_))); (case side4 => exact HC1.out); rintro e w' ⟨rfl, ⟨nd, rfl⟩⟩))
                              go_roundg k3
                              case measure => have := HJ12.out; have := HJ51.out; have := HK3.out; omega
                              case rel => exact ⟨(wrap64 (x23_3 + 1)), (by first | rfl | (simp; done) | (simp [*]; done)), H', ⟨by have := HJ12.out; have := HJ51.out; have := HK3.out; omega⟩, ⟨by (with_reducible repeat (first | apply Kd.R_alloc | apply Kd.R_drewN | apply Kd.R_drew)); exact Kd.R_mono HO_11.out (fun _ hk => hk.1)⟩, ⟨by (with_reducible repeat (first | apply Kd.R_alloc | apply Kd.R_drewN | apply Kd.R_drew)); exact Kd.R_mono HO_19.out (fun _ hk => hk.1)⟩, ⟨by repeat (first | (with_reducible first | exact HB.out | apply below_alloc | apply pw_below_drewN | apply below_drew1) | exact HB.out)⟩⟩
                          · replace c60 := Bool.eq_false_iff.mpr c60
                            subst c60
                            have H1 := H
                            rw [if_neg (show ¬ (false = true) by decide)] at H1
                            clear H
                            have H := H1
                            clear H1
                            exact absurd H (by simp)
                        · rw [if_neg c58] at H
                          have c58b0 : decide (x23_3 < (wrap64 (2 * a0))) = false := decide_eq_false c58
                          clear c58
                          by_cases c67 : (l1.length : Int) < 60
                          · rw [if_pos c67] at H
                            have c67b0 : decide ((l1.length : Int) < 60) = true := decide_eq_true c67
                            have c67b1 : decide (l1.length < 60) = true := decide_eq_true (by omega)
                            clear c67
                            have H' := Aside0.mk H
                            clear H
                            obtain ⟨Ao68, co68, eo68⟩ := Kd.R_slice HO_19.out
                            subst eo68
                            go_wp2
                            go_loopg [26, 174] k3 (fun kq v26 v174 w' => ∃ (x26_4 : Int) (x174_4 : Int), v26 = .int .i64 x26_4 ∧ v174 = .int .i64 x174_4 ∧ Aside0 (laws_FnStrokesHeardOfAll.l1 kq a0 l1 a2 a3 a4 t286 x26_4 t298 (t298.length : Int) x174_4 = some true) ∧ Aside0 (kq ≤ k3) ∧ Aside0 (Kd.R (Kd.int .i64) 3 w' w.heap.size (fun k_ => some k_ ≠ ((.slice Ao68 t298.length co68) : Value).ownBlock) v288 t286) ∧ Aside0 (Kd.R (Kd.int .i64) 3 w' w.heap.size (fun k_ => some k_ ≠ (v288 : Value).ownBlock) (.slice Ao68 t298.length co68) t298) ∧ Aside0 (Below w.heap.size w w'))
                            case atStart => exact ⟨(0), (0), (by first | rfl | (simp; done) | (simp [*]; done)), (by first | rfl | (simp; done) | (simp [*]; done)), H', ⟨Nat.le_refl _⟩, ⟨by (with_reducible repeat (first | apply Kd.R_alloc | apply Kd.R_drewN | apply Kd.R_drew)); exact HO_11.out⟩, ⟨by (with_reducible repeat (first | apply Kd.R_alloc | apply Kd.R_drewN | apply Kd.R_drew)); exact HO_19.out⟩, ⟨by repeat (first | (with_reducible first | exact HB.out | apply below_alloc | apply pw_below_drewN | apply below_drew1) | exact HB.out)⟩⟩
                            case round =>
                              clear H'
                              try clear c1
                              try clear c2
                              try clear p2
                              try clear c3
                              try clear c4
                              try clear c5
                              try clear c6
                              try clear c6b0
                              try clear c6b1
                              try clear p6
                              try clear c7
                              try clear c8
                              try clear c9
                              try clear c11
                              try clear c20
                              try clear c20b0
                              try clear c20b1
                              try clear c20b2
                              try clear c22
                              try clear c23
                              try clear c23b0
                              try clear c23b1
                              try clear c23b2
                              try clear c26
                              try clear c26b0
                              try clear c26b1
                              try clear c26b2
                              try clear c29
                              try clear c29b0
                              try clear c29b1
                              try clear c29b2
                              try clear c33
                              try clear c34
                              try clear c34b0
                              try clear c34b1
                              try clear c34b2
                              try clear c49
                              try clear c51
                              try clear c53
                              try clear c53b0
                              try clear c53b1
                              try clear c53b2
                              try clear c57
                              try clear c58
                              try clear c58b0
                              try clear c60
                              try clear c63
                              try clear c63b0
                              try clear c63b1
                              try clear c63b2
                              try clear p64
                              try clear c67
                              try clear c67b0
                              try clear c67b1
                              try clear p2
                              obtain ⟨x26_4, x174_4, rfl, rfl, HA, HK4, HO_11, HO_172, HB⟩ := hrel
                              cases gk with
                              | zero => exact absurd HA.out (by simp [laws_FnStrokesHeardOfAll.l1])
                              | succ k4 =>
                                have H := HA.out
                                clear HA
                                simp only [laws_FnStrokesHeardOfAll.l1] at H
                                by_cases c69 : x174_4 < (t298.length : Int)
                                · rw [if_pos c69] at H
                                  have c69b0 : decide (x174_4 < (t298.length : Int)) = true := decide_eq_true c69
                                  clear c69
                                  by_cases c70 : 0 ≤ x174_4
                                  · rw [if_pos c70] at H
                                    have c70b0 : decide (0 ≤ x174_4) = true := decide_eq_true c70
                                    clear c70
                                    by_cases c71 : x174_4 < (t298.length : Int)
                                    · skip
                                      rw [if_pos c71] at H
                                      have c71b0 : decide (x174_4 < (t298.length : Int)) = true := decide_eq_true c71
                                      clear c71
                                      obtain ⟨y315, hy315⟩ : ∃ y_ : List Int, y_ = (([] : List Int)) := ⟨_, rfl⟩
                                      replace H : (if y315.length + l1.length < 17592186044416 then ((some (y315 ++ l1 : List Int)).bind fun y318 => (if y318.length < 17592186044416 then ((impl_HalvesOfHeard.f k4 a0 (y318 ++ [rd t298 x174_4])).bind fun bt324 => (if bt324.2 = true then (laws_FnStrokesHeardOfAll.j4 k4 a0 l1 a2 a3 a4 t286 x26_4 bt324.1 t298 (t298.length : Int) x174_4 (decide ((bt324.1.length : Int) < 1))) else (laws_FnStrokesHeardOfAll.j4 k4 a0 l1 a2 a3 a4 t286 x26_4 bt324.1 t298 (t298.length : Int) x174_4 true))) else (none))) else (none)) = some true := by first | (rw [hy315]; with_reducible exact H) | (have H2_ := (Option.bind_some _ _).symm.trans H; rw [hy315]; with_reducible exact H2_) | (have H2_ := (Option.bind_some _ _).symm.trans H; with_reducible exact H2_) | with_reducible exact H | (rw [hy315]; exact H) | exact H
                                      have Ny315 := Aside0.mk hy315
                                      clear hy315
                                      by_cases c72 : y315.length + l1.length < 17592186044416
                                      · rw [if_pos c72] at H
                                        have LMc72 := Aside0.mk c72
                                        clear c72
                                        obtain ⟨y318, hy318⟩ : ∃ y_ : List Int, y_ = (y315 ++ l1) := ⟨_, rfl⟩
                                        replace H : (if y318.length < 17592186044416 then ((impl_HalvesOfHeard.f k4 a0 (y318 ++ [rd t298 x174_4])).bind fun bt324 => (if bt324.2 = true then (laws_FnStrokesHeardOfAll.j4 k4 a0 l1 a2 a3 a4 t286 x26_4 bt324.1 t298 (t298.length : Int) x174_4 (decide ((bt324.1.length : Int) < 1))) else (laws_FnStrokesHeardOfAll.j4 k4 a0 l1 a2 a3 a4 t286 x26_4 bt324.1 t298 (t298.length : Int) x174_4 true))) else (none)) = some true := by first | (rw [hy318]; with_reducible exact H) | (have H2_ := (Option.bind_some _ _).symm.trans H; rw [hy318]; with_reducible exact H2_) | (have H2_ := (Option.bind_some _ _).symm.trans H; with_reducible exact H2_) | with_reducible exact H | (rw [hy318]; exact H) | exact H
                                        have Ny318 := Aside0.mk hy318
                                        clear hy318
                                        by_cases c73 : y318.length < 17592186044416
                                        · rw [if_pos c73] at H
                                          have LMc73 := Aside0.mk c73
                                          clear c73
                                          obtain ⟨y321, hy321⟩ : ∃ y_ : List Int, y_ = (y318 ++ [rd t298 x174_4]) := ⟨_, rfl⟩
                                          replace H : ((impl_HalvesOfHeard.f k4 a0 y321).bind fun bt324 => (if bt324.2 = true then (laws_FnStrokesHeardOfAll.j4 k4 a0 l1 a2 a3 a4 t286 x26_4 bt324.1 t298 (t298.length : Int) x174_4 (decide ((bt324.1.length : Int) < 1))) else (laws_FnStrokesHeardOfAll.j4 k4 a0 l1 a2 a3 a4 t286 x26_4 bt324.1 t298 (t298.length : Int) x174_4 true))) = some true := by first | (rw [hy321]; with_reducible exact H) | (have H2_ := (Option.bind_some _ _).symm.trans H; rw [hy321]; with_reducible exact H2_) | (have H2_ := (Option.bind_some _ _).symm.trans H; with_reducible exact H2_) | with_reducible exact H | (rw [hy321]; exact H) | exact H
                                          have Ny321 := Aside0.mk hy321
                                          clear hy321
                                          replace H := Option.bind_eq_some_iff.mp H
                                          obtain ⟨⟨t324, t325⟩, A740, H⟩ := H
                                          (try dsimp only at H)
                                          have A74 := Aside0.mk A740
                                          clear A740
                                          have HC75 := Aside0.mk H
                                          clear H
                                          have p314 : 0 ≤ (x174_4 : Int) := of_decide_eq_true (by first | (with_reducible assumption) | assumption)
                                          have q314 : x174_4 < (t298.length : Int) := of_decide_eq_true (by first | (with_reducible assumption) | assumption)
                                          obtain ⟨ad314, e314, hx314_0⟩ := Kd.at_int (Kd.R_reads' HO_172.out).2.2 x174_4 p314 q314
                                          cases e314
                                          replace p314 := eq_true p314
                                          replace q314 := eq_true q314
                                          go_upto_region 26 with (first | ((with_reducible refine gate_dst (N := 180) rfl ?_); (try (refine gate_guard (by rfl) ?_; dsimp only)); refine Kd.R_lit (Kd.int .i64) _ 3 ?hg (N := 180) ?hd (xs := ([] : List Int)) (inner := []) (ok := fun _ => True) (okp := fun _ => True) ?hr ?hp (fun _ hk => hk) trivial (Below.refl _ _) (Nat.le_refl _) (by simp) ?_; (case hd => rfl); (case hg => rfl); (case hr => first | (go_simp; done) | (go_simp; rfl)); (case hp => exact (Reps.none _ _)); intro v316 w76 ho77 hb hg_ hnew_; clear hg_ hnew_; (first | rw [← Ny315.out] at ho77 | (simp only [Int.reduceToNat] at ho77; rw [← Ny315.out] at ho77)); have n0_ := Aside0.mk (Kd.R_elder' (by (with_reducible repeat (first | apply Kd.R_alloc | apply Kd.R_drewN | apply Kd.R_drew)); exact HO_11.out) (Kd.R_base ho77) hb); have n1_ := Aside0.mk (Kd.R_elder' (by (with_reducible repeat (first | apply Kd.R_alloc | apply Kd.R_drewN | apply Kd.R_drew)); exact HO_172.out) (Kd.R_base ho77) hb); have n2_ := Aside0.mk (Kd.R_lower (Kd.R_new' (Kd.R_new' ho77 (Kd.R_lt (by (with_reducible repeat (first | apply Kd.R_alloc | apply Kd.R_drewN | apply Kd.R_drew)); exact HO_11.out))) (Kd.R_lt (by (with_reducible repeat (first | apply Kd.R_alloc | apply Kd.R_drewN | apply Kd.R_drew)); exact HO_172.out))) (below_size (by repeat (first | (with_reducible first | exact HB.out | apply below_alloc | apply pw_below_drewN | apply below_drew1) | exact HB.out)))); replace HB := zB HB hb; clear HO_11; clear HO_172; have HO_11 := n0_; have HO_172 := n1_; have HO317 := n2_; clear n0_ n1_ n2_; clear hb ho77) | ((with_reducible refine gate_builtin (b := .append) (xs := #[.tmp 180, .tmp 181]) rfl ?_); (try (refine gate_guard (by rfl) ?_; dsimp only)); at_builtin; refine Kd.R_append_rows (Kd.int .i64) (w0 := w) w.heap.size rfl (.tmp 180) (.tmp 181) 22 3 (.int .i64 0) 8 rfl Try.underlying22 info3 rfl (by decide) (by omega) v316 y315 l1 _ _ _ (fun k_ => some k_ ≠ (v288 : Value).ownBlock ∧ some k_ ≠ (.slice (some ad314) t298.length co68 : Value).ownBlock) (fun _ => False) rfl rfl ?aO ?aR (fun _ _ h => h) (fun _ h => h.elim) ?aF ?aB ?aS ?aL ?_; (case aR => repeat (first | exact (Kd.C_below HR1.out HB.out) | (with_reducible refine Kd.C_alloc ?_ _) | (with_reducible refine Kd.C_drewN ?_ _) | (with_reducible refine Kd.C_drew ?_))); (case aB => exact (by repeat (first | (with_reducible first | exact HB.out | apply below_alloc | apply pw_below_drewN | apply below_drew1) | exact HB.out))); (case aF => exact (fun k_ hk => ⟨Kd.fresh' (Kd.R_lt (by (with_reducible repeat (first | apply Kd.R_alloc | apply Kd.R_drewN | apply Kd.R_drew)); exact HO_11.out)) k_ hk, Kd.fresh' (Kd.R_lt (by (with_reducible repeat (first | apply Kd.R_alloc | apply Kd.R_drewN | apply Kd.R_drew)); exact HO_172.out)) k_ hk⟩)); (case aO => exact (by (with_reducible repeat (first | apply Kd.R_alloc | apply Kd.R_drewN | apply Kd.R_drew)); exact Kd.R_mono HO317.out (fun _ hk => ⟨hk.1.2, hk.2⟩))); (case aS => exact (below_size (by repeat (first | (with_reducible first | exact HB.out | apply below_alloc | apply pw_below_drewN | apply below_drew1) | exact HB.out)))); (case aL => have := LMc72.out; omega); intro v319 w78 ho hb hg hat; rw [← Ny318.out] at ho; have n0_ := Aside0.mk (Kd.R_after (ok := (fun k_ => some k_ ≠ (.slice (some ad314) t298.length co68 : Value).ownBlock)) (by (with_reducible repeat (first | apply Kd.R_alloc | apply Kd.R_drewN | apply Kd.R_drew)); exact HO_11.out) hg hat); have n1_ := Aside0.mk (Kd.R_after (ok := (fun k_ => some k_ ≠ (v288 : Value).ownBlock)) (by (with_reducible repeat (first | apply Kd.R_alloc | apply Kd.R_drewN | apply Kd.R_drew)); exact HO_172.out) hg hat); have n2_ := Aside0.mk (hb); have n3_ := Aside0.mk (ho); clear HO317; clear HO_11; clear HO_172; clear HB; have HO_11 := n0_; have HO_172 := n1_; have HB := n2_; have HO320 := n3_; clear n0_ n1_ n2_ n3_; clear ho hb hg hat) | ((with_reducible refine gate_builtin (b := .append) (xs := #[.tmp 182, .tmp 184]) rfl ?_); (try (refine gate_guard (by rfl) ?_; dsimp only)); at_builtin; refine Kd.R_append (Kd.int .i64) (w0 := w) w.heap.size rfl (.tmp 182) (.tmp 184) 22 3 (.int .i64 0) 8 rfl Try.underlying22 info3 rfl (by decide) (by omega) v319 y318 (rd t298 x174_4) [.int .i64 (rd t298 x174_4)] (fun k_ => some k_ ≠ (v288 : Value).ownBlock ∧ some k_ ≠ (.slice (some ad314) t298.length co68 : Value).ownBlock) (fun _ => False) rfl rfl ?aP (fun _ hk => hk.elim) ?aF ?aO ?aB ?aS ?aL ?_; (case aP => exact rfl); (case aB => exact (by repeat (first | (with_reducible first | exact HB.out | apply below_alloc | apply pw_below_drewN | apply below_drew1) | exact HB.out))); (case aF => exact (fun k_ hk => ⟨Kd.fresh' (Kd.R_lt (by (with_reducible repeat (first | apply Kd.R_alloc | apply Kd.R_drewN | apply Kd.R_drew)); exact HO_11.out)) k_ hk, Kd.fresh' (Kd.R_lt (by (with_reducible repeat (first | apply Kd.R_alloc | apply Kd.R_drewN | apply Kd.R_drew)); exact HO_172.out)) k_ hk⟩)); (case aO => exact (by (with_reducible repeat (first | apply Kd.R_alloc | apply Kd.R_drewN | apply Kd.R_drew)); exact HO320.out)); (case aS => exact (below_size (by repeat (first | (with_reducible first | exact HB.out | apply below_alloc | apply pw_below_drewN | apply below_drew1) | exact HB.out)))); (case aL => have := LMc73.out; omega); intro v322 w79 ho hb hg hat; rw [← Ny321.out] at ho; have n0_ := Aside0.mk (Kd.R_after (ok := (fun k_ => some k_ ≠ (.slice (some ad314) t298.length co68 : Value).ownBlock)) (by (with_reducible repeat (first | apply Kd.R_alloc | apply Kd.R_drewN | apply Kd.R_drew)); exact HO_11.out) hg hat); have n1_ := Aside0.mk (Kd.R_after (ok := (fun k_ => some k_ ≠ (v288 : Value).ownBlock)) (by (with_reducible repeat (first | apply Kd.R_alloc | apply Kd.R_drewN | apply Kd.R_drew)); exact HO_172.out) hg hat); have n2_ := Aside0.mk (hb); have n3_ := Aside0.mk (ho); clear HO320; clear HO_11; clear HO_172; clear HB; have HO_11 := n0_; have HO_172 := n1_; have HB := n2_; have HO323 := n3_; clear n0_ n1_ n2_ n3_; clear ho hb hg hat; obtain ⟨Ao80, co80, eo80⟩ := Kd.R_slice HO323.out; subst eo80) | ((with_reducible refine gate_callee (f := 4) rfl ?_); refine goesL_ (some 186) rfl rfl Try.func4 (by kernel_rfl) rfl #[.int .i64 a0, .slice Ao80 y321.length co80] rfl (by (try simp only [List.map_toArray, List.map_cons, List.map_nil]); first | done | rfl | (simp only [List.length_drop, List.length_take]; rfl)) ?_; (with_reducible refine (impl_HalvesOfHeard.calls k4 a0 _ _ y321 t324 t325 _ ?side1 ?side2 A74.out).mono ?_); (case side1 => repeat (first | exact (Kd.R_reads' HO323.out).2.2 | (with_reducible refine Kd.C_alloc ?_ _) | (with_reducible refine Kd.C_drewN ?_ _) | (with_reducible refine Kd.C_drew ?_))); (case side2 => exact (Kd.R_reads' HO323.out).2.1); rintro e w81 ⟨v326, rfl, ho0, hb⟩; refine ⟨_, rfl, ?_⟩; have n0_ := Aside0.mk (Kd.R_elder' (by (with_reducible repeat (first | apply Kd.R_alloc | apply Kd.R_drewN | apply Kd.R_drew)); exact HO_11.out) (Kd.R_base ho0) hb); have n1_ := Aside0.mk (Kd.R_elder' (by (with_reducible repeat (first | apply Kd.R_alloc | apply Kd.R_drewN | apply Kd.R_drew)); exact HO_172.out) (Kd.R_base ho0) hb); have n2_ := Aside0.mk (Kd.R_elder' (by (with_reducible repeat (first | apply Kd.R_alloc | apply Kd.R_drewN | apply Kd.R_drew)); exact HO323.out) (Kd.R_base ho0) hb); have n3_ := Aside0.mk (Kd.R_lower (Kd.R_new' (Kd.R_new' (Kd.R_new' ho0 (Kd.R_lt (by (with_reducible repeat (first | apply Kd.R_alloc | apply Kd.R_drewN | apply Kd.R_drew)); exact HO_11.out))) (Kd.R_lt (by (with_reducible repeat (first | apply Kd.R_alloc | apply Kd.R_drewN | apply Kd.R_drew)); exact HO_172.out))) (Kd.R_lt (by (with_reducible repeat (first | apply Kd.R_alloc | apply Kd.R_drewN | apply Kd.R_drew)); exact HO323.out))) (below_size (by repeat (first | (with_reducible first | exact HB.out | apply below_alloc | apply pw_below_drewN | apply below_drew1) | exact HB.out)))); replace HB := zB HB hb; clear HO_11; clear HO_172; clear HO323; have HO_11 := n0_; have HO_172 := n1_; have HO323 := n2_; have HO327 := n3_; clear n0_ n1_ n2_ n3_; (try clear hb); (try clear hb2); (try clear hk); (try clear hi); (try clear ho0)))
                                          (try simp only [Act.put, List.setIfInBounds_toArray, List.set_cons_zero, List.set_cons_succ])
                                          go_cut [195] from 189 to 195 (fun v195 wc => ∃ (kq : Nat) (x195_74 : Bool), v195 = .bool x195_74 ∧ Aside0 (laws_FnStrokesHeardOfAll.j4 kq a0 l1 a2 a3 a4 t286 x26_4 t324 t298 (t298.length : Int) x174_4 x195_74 = some true) ∧ Aside0 (kq ≤ k4) ∧ Aside0 (Kd.R (Kd.int .i64) 3 wc w.heap.size (fun k_ => some k_ ≠ (v326 : Value).ownBlock ∧ some k_ ≠ ((.slice (some ad314) t298.length co68) : Value).ownBlock) v288 t286) ∧ Aside0 (Kd.R (Kd.int .i64) 3 wc w.heap.size (fun k_ => some k_ ≠ (v288 : Value).ownBlock ∧ some k_ ≠ ((.slice (some ad314) t298.length co68) : Value).ownBlock) v326 t324) ∧ Aside0 (Kd.R (Kd.int .i64) 3 wc w.heap.size (fun k_ => some k_ ≠ (v288 : Value).ownBlock ∧ some k_ ≠ (v326 : Value).ownBlock) (.slice (some ad314) t298.length co68) t298) ∧ Aside0 (Below w.heap.size w wc))
                                          case first =>
                                            have H := HC75.out
                                            clear HC75
                                            by_cases c82 : t325 = true
                                            · subst c82
                                              have H1 := H
                                              rw [if_pos rfl] at H1
                                              clear H
                                              have H := H1
                                              clear H1
                                              have H' := Aside0.mk H
                                              clear H
                                              obtain ⟨Ao83, co83, eo83⟩ := Kd.R_slice HO327.out
                                              subst eo83
                                              go_wp2
                                              go_meet
                                              case rel => exact ⟨_, (decide ((t324.length : Int) < 1)), (by first | rfl | (simp; done) | (simp [*]; done)), H', ⟨by have := HJ12.out; have := HJ51.out; have := HK3.out; have := HK4.out; first | omega | exact Nat.le_refl _⟩, ⟨by (with_reducible repeat (first | apply Kd.R_alloc | apply Kd.R_drewN | apply Kd.R_drew)); exact Kd.R_mono HO_11.out (fun _ hk => ⟨hk.2, hk.1.1⟩)⟩, ⟨by (with_reducible repeat (first | apply Kd.R_alloc | apply Kd.R_drewN | apply Kd.R_drew)); exact Kd.R_mono HO327.out (fun _ hk => ⟨hk.1.1.2, hk.1.2⟩)⟩, ⟨by (with_reducible repeat (first | apply Kd.R_alloc | apply Kd.R_drewN | apply Kd.R_drew)); exact Kd.R_mono HO_172.out (fun _ hk => ⟨hk.1.1, hk.2⟩)⟩, ⟨by repeat (first | (with_reducible first | exact HB.out | apply below_alloc | apply pw_below_drewN | apply below_drew1) | exact HB.out)⟩⟩
                                            · replace c82 := Bool.eq_false_iff.mpr c82
                                              subst c82
                                              have H1 := H
                                              rw [if_neg (show ¬ (false = true) by decide)] at H1
                                              clear H
                                              have H := H1
                                              exact (laws_FnStrokesHeardOfAll.j4_no H).elim
                                          case rest =>
                                            clear HC75
                                            try clear c1
                                            try clear c2
                                            try clear p2
                                            try clear c3
                                            try clear p3
                                            try clear q3
                                            try clear hx3
                                            try clear c4
                                            try clear c5
                                            try clear c6
                                            try clear c6b0
                                            try clear c6b1
                                            try clear p6
                                            try clear c7
                                            try clear c8
                                            try clear c9
                                            try clear c11
                                            try clear c20
                                            try clear c20b0
                                            try clear c20b1
                                            try clear c20b2
                                            try clear c22
                                            try clear c23
                                            try clear c23b0
                                            try clear c23b1
                                            try clear c23b2
                                            try clear c26
                                            try clear c26b0
                                            try clear c26b1
                                            try clear c26b2
                                            try clear c29
                                            try clear c29b0
                                            try clear c29b1
                                            try clear c29b2
                                            try clear p31
                                            try clear q31
                                            try clear hx31
                                            try clear c33
                                            try clear c34
                                            try clear c34b0
                                            try clear c34b1
                                            try clear c34b2
                                            try clear c49
                                            try clear c51
                                            try clear c53
                                            try clear c53b0
                                            try clear c53b1
                                            try clear c53b2
                                            try clear c57
                                            try clear c58
                                            try clear c58b0
                                            try clear c60
                                            try clear c63
                                            try clear c63b0
                                            try clear c63b1
                                            try clear c63b2
                                            try clear p64
                                            try clear c67
                                            try clear c67b0
                                            try clear c67b1
                                            try clear c69
                                            try clear c69b0
                                            try clear c70
                                            try clear c70b0
                                            try clear c71
                                            try clear c71b0
                                            try clear c72
                                            try clear c73
                                            try clear c82
                                            try clear hx314_0
                                            try clear p2
                                            try clear p314
                                            try clear p6
                                            try clear p64
                                            try clear q314
                                            obtain ⟨kq, x195_74, rfl, HA, HJ74, HO_11, HO_29, HO_172, HB⟩ := hcut
                                            cases kq with
                                            | zero => exact absurd HA.out (by simp [laws_FnStrokesHeardOfAll.j4])
                                            | succ kj74 =>
                                              have H := HA.out
                                              clear HA
                                              simp only [laws_FnStrokesHeardOfAll.j4] at H
                                              by_cases c84 : x195_74 = true
                                              · subst c84
                                                have H1 := H
                                                rw [if_pos rfl] at H1
                                                clear H
                                                have H := H1
                                                clear H1
                                                exact absurd H (by simp)
                                              · skip
                                                replace c84 := Bool.eq_false_iff.mpr c84
                                                subst c84
                                                have H1 := H
                                                rw [if_neg (show ¬ (false = true) by decide)] at H1
                                                clear H
                                                have H := H1
                                                clear H1
                                                have H' := Aside0.mk H
                                                clear H
                                                obtain ⟨Ao85, co85, eo85⟩ := Kd.R_slice HO_29.out
                                                subst eo85
                                                go_wp2
                                                go_loopg [198] kj74 (fun kq v198 w' => ∃ (x198_6 : Int), v198 = .int .i64 x198_6 ∧ Aside0 (laws_FnStrokesHeardOfAll.l2 kq a0 l1 a2 a3 a4 t286 x26_4 t324 t298 (t298.length : Int) x174_4 t324 (t324.length : Int) x198_6 = some true) ∧ Aside0 (kq ≤ kj74) ∧ Aside0 (Kd.R (Kd.int .i64) 3 w' w.heap.size (fun k_ => some k_ ≠ ((.slice Ao85 t324.length co85) : Value).ownBlock ∧ some k_ ≠ ((.slice (some ad314) t298.length co68) : Value).ownBlock ∧ some k_ ≠ ((.slice Ao85 t324.length co85) : Value).ownBlock) v288 t286) ∧ Aside0 (Kd.R (Kd.int .i64) 3 w' w.heap.size (fun k_ => some k_ ≠ (v288 : Value).ownBlock ∧ some k_ ≠ ((.slice (some ad314) t298.length co68) : Value).ownBlock) (.slice Ao85 t324.length co85) t324) ∧ Aside0 (Kd.R (Kd.int .i64) 3 w' w.heap.size (fun k_ => some k_ ≠ (v288 : Value).ownBlock ∧ some k_ ≠ ((.slice Ao85 t324.length co85) : Value).ownBlock ∧ some k_ ≠ ((.slice Ao85 t324.length co85) : Value).ownBlock) (.slice (some ad314) t298.length co68) t298) ∧ Aside0 (Kd.R (Kd.int .i64) 3 w' w.heap.size (fun k_ => some k_ ≠ (v288 : Value).ownBlock ∧ some k_ ≠ ((.slice (some ad314) t298.length co68) : Value).ownBlock) (.slice Ao85 t324.length co85) t324) ∧ Aside0 (Below w.heap.size w w'))
                                                case atStart => exact ⟨(0), (by first | rfl | (simp; done) | (simp [*]; done)), H', ⟨Nat.le_refl _⟩, ⟨by (with_reducible repeat (first | apply Kd.R_alloc | apply Kd.R_drewN | apply Kd.R_drew)); exact Kd.R_mono HO_11.out (fun _ hk => ⟨hk.1, ⟨hk.2, hk.1⟩⟩)⟩, ⟨by (with_reducible repeat (first | apply Kd.R_alloc | apply Kd.R_drewN | apply Kd.R_drew)); exact HO_29.out⟩, ⟨by (with_reducible repeat (first | apply Kd.R_alloc | apply Kd.R_drewN | apply Kd.R_drew)); exact Kd.R_mono HO_172.out (fun _ hk => ⟨hk.1, ⟨hk.2, hk.2⟩⟩)⟩, ⟨by (with_reducible repeat (first | apply Kd.R_alloc | apply Kd.R_drewN | apply Kd.R_drew)); exact HO_29.out⟩, ⟨by repeat (first | (with_reducible first | exact HB.out | apply below_alloc | apply pw_below_drewN | apply below_drew1) | exact HB.out)⟩⟩
                                                case round =>
                                                  clear H'
                                                  try clear c1
                                                  try clear c2
                                                  try clear p2
                                                  try clear c3
                                                  try clear p3
                                                  try clear q3
                                                  try clear hx3
                                                  try clear c4
                                                  try clear c5
                                                  try clear c6
                                                  try clear c6b0
                                                  try clear c6b1
                                                  try clear p6
                                                  try clear c7
                                                  try clear c8
                                                  try clear c9
                                                  try clear c11
                                                  try clear c20
                                                  try clear c20b0
                                                  try clear c20b1
                                                  try clear c20b2
                                                  try clear c22
                                                  try clear c23
                                                  try clear c23b0
                                                  try clear c23b1
                                                  try clear c23b2
                                                  try clear c26
                                                  try clear c26b0
                                                  try clear c26b1
                                                  try clear c26b2
                                                  try clear c29
                                                  try clear c29b0
                                                  try clear c29b1
                                                  try clear c29b2
                                                  try clear p31
                                                  try clear q31
                                                  try clear hx31
                                                  try clear c33
                                                  try clear c34
                                                  try clear c34b0
                                                  try clear c34b1
                                                  try clear c34b2
                                                  try clear c49
                                                  try clear c51
                                                  try clear c53
                                                  try clear c53b0
                                                  try clear c53b1
                                                  try clear c53b2
                                                  try clear c57
                                                  try clear c58
                                                  try clear c58b0
                                                  try clear c60
                                                  try clear c63
                                                  try clear c63b0
                                                  try clear c63b1
                                                  try clear c63b2
                                                  try clear p64
                                                  try clear c67
                                                  try clear c67b0
                                                  try clear c67b1
                                                  try clear c69
                                                  try clear c69b0
                                                  try clear c70
                                                  try clear c70b0
                                                  try clear c71
                                                  try clear c71b0
                                                  try clear c72
                                                  try clear c73
                                                  try clear c82
                                                  try clear c84
                                                  try clear hx314_0
                                                  try clear p2
                                                  try clear p3
                                                  try clear p31
                                                  try clear p314
                                                  try clear p6
                                                  try clear p64
                                                  try clear q3
                                                  try clear q31
                                                  try clear q314
                                                  obtain ⟨x198_6, rfl, HA, HK6, HO_11, HO_29, HO_172, HO_196, HB⟩ := hrel
                                                  cases gk with
                                                  | zero => exact absurd HA.out (by simp [laws_FnStrokesHeardOfAll.l2])
                                                  | succ k6 =>
                                                    have H := HA.out
                                                    clear HA
                                                    simp only [laws_FnStrokesHeardOfAll.l2] at H
                                                    by_cases c86 : x198_6 < (t324.length : Int)
                                                    · rw [if_pos c86] at H
                                                      have c86b0 : decide (x198_6 < (t324.length : Int)) = true := decide_eq_true c86
                                                      clear c86
                                                      by_cases c87 : 0 ≤ x198_6
                                                      · rw [if_pos c87] at H
                                                        have c87b0 : decide (0 ≤ x198_6) = true := decide_eq_true c87
                                                        clear c87
                                                        by_cases c88 : x198_6 < (t324.length : Int)
                                                        · rw [if_pos c88] at H
                                                          have c88b0 : decide (x198_6 < (t324.length : Int)) = true := decide_eq_true c88
                                                          clear c88
                                                          replace H := Option.bind_eq_some_iff.mp H
                                                          obtain ⟨t329, A890, H⟩ := H
                                                          (try dsimp only at H)
                                                          have A89 := Aside0.mk A890
                                                          clear A890
                                                          by_cases c90 : t329 = true
                                                          · subst c90
                                                            have H1 := H
                                                            rw [if_pos rfl] at H1
                                                            clear H
                                                            have H := H1
                                                            clear H1
                                                            have H' := Aside0.mk H
                                                            clear H
                                                            have p328 : 0 ≤ (x198_6 : Int) := of_decide_eq_true (by first | (with_reducible assumption) | assumption)
                                                            have q328 : x198_6 < (t324.length : Int) := of_decide_eq_true (by first | (with_reducible assumption) | assumption)
                                                            obtain ⟨ad328, e328, hx328_0⟩ := Kd.at_int (Kd.R_reads' HO_196.out).2.2 x198_6 p328 q328
                                                            cases e328
                                                            replace p328 := eq_true p328
                                                            replace q328 := eq_true q328
                                                            obtain ⟨Ao91, co91, eo91⟩ := Kd.R_slice HO_11.out
                                                            subst eo91
                                                            go_wp2_with (first | ((with_reducible refine gate_callee (f := 12) rfl ?_); refine goesL_ (some 204) rfl rfl Try.func12 (by kernel_rfl) rfl #[.slice Ao91 t286.length co91, .int .i64 (rd t324 x198_6)] rfl (by (try simp only [List.map_toArray, List.map_cons, List.map_nil]); first | done | rfl | (simp only [List.length_drop, List.length_take]; rfl)) ?_; (with_reducible refine (laws_kHas.calls k6 _ _ t286 (rd t324 x198_6) true _ ?side1 ?side2 A89.out).mono ?_); (case side1 => repeat (first | exact (Kd.R_reads' HO_11.out).2.2 | (with_reducible refine Kd.C_alloc ?_ _) | (with_reducible refine Kd.C_drewN ?_ _) | (with_reducible refine Kd.C_drew ?_))); (case side2 => exact (Kd.R_reads' HO_11.out).2.1); rintro e w' ⟨rfl, ⟨nd, rfl⟩⟩; refine ⟨_, rfl, ?_⟩))
                                                            go_roundg k6
                                                            case measure => have := HJ12.out; have := HJ51.out; have := HK3.out; have := HK4.out; have := HJ74.out; have := HK6.out; omega
                                                            case rel => exact ⟨(wrap64 (x198_6 + 1)), (by first | rfl | (simp; done) | (simp [*]; done)), H', ⟨by have := HJ12.out; have := HJ51.out; have := HK3.out; have := HK4.out; have := HJ74.out; have := HK6.out; omega⟩, ⟨by (with_reducible repeat (first | apply Kd.R_alloc | apply Kd.R_drewN | apply Kd.R_drew)); exact HO_11.out⟩, ⟨by (with_reducible repeat (first | apply Kd.R_alloc | apply Kd.R_drewN | apply Kd.R_drew)); exact HO_29.out⟩, ⟨by (with_reducible repeat (first | apply Kd.R_alloc | apply Kd.R_drewN | apply Kd.R_drew)); exact HO_172.out⟩, ⟨by (with_reducible repeat (first | apply Kd.R_alloc | apply Kd.R_drewN | apply Kd.R_drew)); exact HO_196.out⟩, ⟨by repeat (first | (with_reducible first | exact HB.out | apply below_alloc | apply pw_below_drewN | apply below_drew1) | exact HB.out)⟩⟩
                                                          · replace c90 := Bool.eq_false_iff.mpr c90
                                                            subst c90
                                                            have H1 := H
                                                            rw [if_neg (show ¬ (false = true) by decide)] at H1
                                                            clear H
                                                            have H := H1
                                                            clear H1
                                                            exact absurd H (by simp)
                                                        · rw [if_neg c88] at H
                                                          exact absurd H (by simp)
                                                      · rw [if_neg c87] at H
                                                        exact absurd H (by simp)
                                                    · rw [if_neg c86] at H
                                                      have c86b0 : decide (x198_6 < (t324.length : Int)) = false := decide_eq_false c86
                                                      clear c86
                                                      have H' := Aside0.mk H
                                                      clear H
                                                      go_wp2
                                                      go_roundg k6
                                                      case measure => have := HJ12.out; have := HJ51.out; have := HK3.out; have := HK4.out; have := HJ74.out; have := HK6.out; omega
                                                      case rel => exact ⟨(wrap64 (x26_4 + (t324.length : Int))), (wrap64 (x174_4 + 1)), (by first | rfl | (simp; done) | (simp [*]; done)), (by first | rfl | (simp; done) | (simp [*]; done)), H', ⟨by have := HJ12.out; have := HJ51.out; have := HK3.out; have := HK4.out; have := HJ74.out; have := HK6.out; omega⟩, ⟨by (with_reducible repeat (first | apply Kd.R_alloc | apply Kd.R_drewN | apply Kd.R_drew)); exact Kd.R_mono HO_11.out (fun _ hk => hk.2.1)⟩, ⟨by (with_reducible repeat (first | apply Kd.R_alloc | apply Kd.R_drewN | apply Kd.R_drew)); exact Kd.R_mono HO_172.out (fun _ hk => hk.1)⟩, ⟨by repeat (first | (with_reducible first | exact HB.out | apply below_alloc | apply pw_below_drewN | apply below_drew1) | exact HB.out)⟩⟩
                                        · rw [if_neg c73] at H
                                          exact absurd H (by simp)
                                      · rw [if_neg c72] at H
                                        exact absurd H (by simp)
                                    · rw [if_neg c71] at H
                                      exact absurd H (by simp)
                                  · rw [if_neg c70] at H
                                    exact absurd H (by simp)
                                · rw [if_neg c69] at H
                                  have c69b0 : decide (x174_4 < (t298.length : Int)) = false := decide_eq_false c69
                                  clear c69
                                  by_cases c92 : x26_4 = (t286.length : Int)
                                  · rw [if_pos c92] at H
                                    have c92b0 : (x26_4 == (t286.length : Int)) = true := beq_iff_eq.mpr c92
                                    have c92b1 : (x26_4 != (t286.length : Int)) = false := bne_eq_false_iff_eq.mpr c92
                                    clear c92
                                    have H' := Aside0.mk H
                                    clear H
                                    obtain ⟨Ao93, co93, eo93⟩ := Kd.R_slice HO_11.out
                                    subst eo93
                                    go_wp2
                                    go_meet
                                    case rel => exact ⟨_, H', ⟨by have := HJ12.out; have := HJ51.out; have := HK3.out; have := HK4.out; first | omega | exact Nat.le_refl _⟩, ⟨by repeat (first | (with_reducible first | exact HB.out | apply below_alloc | apply pw_below_drewN | apply below_drew1) | exact HB.out)⟩⟩
                                  · rw [if_neg c92] at H
                                    have c92b0 : (x26_4 == (t286.length : Int)) = false := beq_eq_false_iff_ne.mpr c92
                                    have c92b1 : (x26_4 != (t286.length : Int)) = true := bne_iff_ne.mpr c92
                                    exact absurd H (by simp)
                          · rw [if_neg c67] at H
                            have c67b0 : decide ((l1.length : Int) < 60) = false := decide_eq_false c67
                            have c67b1 : decide (l1.length < 60) = false := decide_eq_false (by omega)
                            clear c67
                            have H' := Aside0.mk H
                            clear H
                            go_wp2
                            go_meet
                            case rel => exact ⟨_, H', ⟨by have := HJ12.out; have := HJ51.out; have := HK3.out; first | omega | exact Nat.le_refl _⟩, ⟨by repeat (first | (with_reducible first | exact HB.out | apply below_alloc | apply pw_below_drewN | apply below_drew1) | exact HB.out)⟩⟩
            · replace c51 := Bool.eq_false_iff.mpr c51
              subst c51
              have H1 := H
              rw [if_neg (show ¬ (false = true) by decide)] at H1
              clear H
              have H := H1
              clear H1
              have H' := Aside0.mk H
              clear H
              go_wp2
              go_meet
              case rel => exact ⟨_, H', ⟨by have := HJ12.out; first | omega | exact Nat.le_refl _⟩, ⟨by repeat (first | (with_reducible first | exact HB.out | apply below_alloc | apply pw_below_drewN | apply below_drew1) | exact HB.out)⟩⟩
          case rest =>
            clear HC50
            try clear c1
            try clear c2
            try clear p2
            try clear c3
            try clear p3
            try clear q3
            try clear hx3
            try clear c4
            try clear c5
            try clear c6
            try clear c6b0
            try clear c6b1
            try clear p6
            try clear c7
            try clear c8
            try clear c9
            try clear c11
            try clear c12
            try clear c20
            try clear c20b0
            try clear c20b1
            try clear c20b2
            try clear c22
            try clear c23
            try clear c23b0
            try clear c23b1
            try clear c23b2
            try clear c26
            try clear c26b0
            try clear c26b1
            try clear c26b2
            try clear c29
            try clear c29b0
            try clear c29b1
            try clear c29b2
            try clear p31
            try clear q31
            try clear hx31
            try clear p32
            try clear q32
            try clear hx32
            try clear c33
            try clear c34
            try clear c34b0
            try clear c34b1
            try clear c34b2
            try clear c49
            try clear c51
            try clear c53
            try clear c53b0
            try clear c53b1
            try clear c53b2
            try clear c57
            try clear c58
            try clear c58b0
            try clear c60
            try clear c63
            try clear c63b0
            try clear c63b1
            try clear c63b2
            try clear p64
            try clear c67
            try clear c67b0
            try clear c67b1
            try clear c69
            try clear c69b0
            try clear c70
            try clear c70b0
            try clear c71
            try clear c71b0
            try clear c72
            try clear c73
            try clear c82
            try clear c84
            try clear c86
            try clear c86b0
            try clear c87
            try clear c87b0
            try clear c88
            try clear c88b0
            try clear c90
            try clear c92
            try clear c92b0
            try clear c92b1
            try clear hx314_0
            try clear hx328_0
            try clear p2
            try clear p3
            try clear p31
            try clear p314
            try clear p328
            try clear p6
            try clear p64
            try clear q3
            try clear q31
            try clear q314
            try clear q328
            obtain ⟨kq, HA, HJ49, HB⟩ := hcut
            cases kq with
            | zero => exact absurd HA.out (by simp [laws_FnStrokesHeardOfAll.j6])
            | succ kj49 =>
              have H := HA.out
              clear HA
              simp only [laws_FnStrokesHeardOfAll.j6] at H
              replace H := Option.bind_eq_some_iff.mp H
              obtain ⟨⟨t330, t331⟩, A940, H⟩ := H
              (try dsimp only at H)
              have A94 := Aside0.mk A940
              clear A940
              replace H := Option.bind_eq_some_iff.mp H
              obtain ⟨⟨t332, t333⟩, A950, H⟩ := H
              (try dsimp only at H)
              have A95 := Aside0.mk A950
              clear A950
              replace H := Option.bind_eq_some_iff.mp H
              obtain ⟨⟨t334, t335, t336⟩, A960, H⟩ := H
              (try dsimp only at H)
              have A96 := Aside0.mk A960
              clear A960
              replace H := Option.bind_eq_some_iff.mp H
              obtain ⟨⟨t339, t340, t341⟩, A970, H⟩ := H
              (try dsimp only at H)
              have A97 := Aside0.mk A970
              clear A970
              have HC98 := Aside0.mk H
              clear H
              go_upto_region 42 with (first | ((with_reducible refine gate_callee (f := 13) rfl ?_); refine goesL_ (some 219) rfl rfl Try.func13 (by kernel_rfl) rfl #[.int .i64 a2, .int .i64 a3] rfl (by (try simp only [List.map_toArray, List.map_cons, List.map_nil]); first | done | rfl | (simp only [List.length_drop, List.length_take]; rfl)) ?_; (with_reducible refine (impl_KnownAfter.calls kj49 a2 a3 t330 t331 _ A94.out).mono ?_); rintro e w99 ⟨rfl, hb⟩; refine ⟨_, rfl, ?_⟩; replace HB := zB HB hb; clear hb) | ((with_reducible refine gate_callee (f := 14) rfl ?_); refine goesL_ (some 225) rfl rfl Try.func14 (by kernel_rfl) rfl #[.int .i64 a2, .int .i64 a3] rfl (by (try simp only [List.map_toArray, List.map_cons, List.map_nil]); first | done | rfl | (simp only [List.length_drop, List.length_take]; rfl)) ?_; (with_reducible refine (spec_KnownAfter.calls kj49 a2 a3 t332 t333 _ A95.out).mono ?_); rintro e w100 ⟨rfl, hb⟩; refine ⟨_, rfl, ?_⟩; replace HB := zB HB hb; clear hb) | ((with_reducible refine gate_callee (f := 15) rfl ?_); refine goesL_ (some 230) rfl rfl Try.func15 (by kernel_rfl) rfl #[.int .i64 a4] rfl (by (try simp only [List.map_toArray, List.map_cons, List.map_nil]); first | done | rfl | (simp only [List.length_drop, List.length_take]; rfl)) ?_; (with_reducible refine (impl_LongestUnknown.calls kj49 a4 t334 t335 t336 _ A96.out).mono ?_); rintro e w101 ⟨v337, rfl, ho0, hb⟩; refine ⟨_, rfl, ?_⟩; have n0_ := Aside0.mk (Kd.R_lower ho0 (below_size (by repeat (first | (with_reducible first | exact HB.out | apply below_alloc | apply pw_below_drewN | apply below_drew1) | exact HB.out)))); replace HB := zB HB hb; have HO338 := n0_; clear n0_; (try clear hb); (try clear hb2); (try clear hk); (try clear hi); (try clear ho0)) | ((with_reducible refine gate_callee (f := 16) rfl ?_); refine goesL_ (some 236) rfl rfl Try.func16 (by kernel_rfl) rfl #[.int .i64 a4] rfl (by (try simp only [List.map_toArray, List.map_cons, List.map_nil]); first | done | rfl | (simp only [List.length_drop, List.length_take]; rfl)) ?_; (with_reducible refine (spec_LongestUnknown.calls kj49 a4 t339 t340 t341 _ A97.out).mono ?_); rintro e w102 ⟨v342, rfl, ho0, hb⟩; refine ⟨_, rfl, ?_⟩; have n0_ := Aside0.mk (Kd.R_elder' (by (with_reducible repeat (first | apply Kd.R_alloc | apply Kd.R_drewN | apply Kd.R_drew)); exact HO338.out) (Kd.R_base ho0) hb); have n1_ := Aside0.mk (Kd.R_lower (Kd.R_new' ho0 (Kd.R_lt (by (with_reducible repeat (first | apply Kd.R_alloc | apply Kd.R_drewN | apply Kd.R_drew)); exact HO338.out))) (below_size (by repeat (first | (with_reducible first | exact HB.out | apply below_alloc | apply pw_below_drewN | apply below_drew1) | exact HB.out)))); replace HB := zB HB hb; clear HO338; have HO338 := n0_; have HO343 := n1_; clear n0_ n1_; (try clear hb); (try clear hb2); (try clear hk); (try clear hi); (try clear ho0)))
              (try simp only [Act.put, List.setIfInBounds_toArray, List.set_cons_zero, List.set_cons_succ])
              go_cut [263] from 240 to 263 (fun v263 wc => ∃ (kq : Nat) (x263_97 : Bool), v263 = .bool x263_97 ∧ Aside0 (laws_FnStrokesHeardOfAll.j7 kq a2 a3 a4 t330 t331 t334 t335 t336 x263_97 = some true) ∧ Aside0 (kq ≤ kj49) ∧ Aside0 (Kd.R (Kd.int .i64) 3 wc w.heap.size (fun _ => True) v337 t334) ∧ Aside0 (Below w.heap.size w wc))
              case first =>
                have H := HC98.out
                clear HC98
                by_cases c103 : (t331 != t333) = true
                · rw [if_pos c103] at H
                  exact (laws_FnStrokesHeardOfAll.j7_no H).elim
                · rw [if_neg c103] at H
                  have c103b0 : (t331 != t333) = false := by simpa using c103
                  (try (have c103b1 : decide (t331 = t333) = true := by simpa using c103))
                  (try (have c103b2 : (t331 == t333) = true := by simpa using c103))
                  clear c103
                  (first | rw [c103b0] | (simp only [i64_w, i32_w]; rw [c103b0]) | skip)
                  by_cases c104 : t330 = t332
                  · rw [if_pos c104] at H
                    have c104b0 : (t330 == t332) = true := beq_iff_eq.mpr c104
                    have c104b1 : (t330 != t332) = false := bne_eq_false_iff_eq.mpr c104
                    clear c104
                    by_cases c105 : (t336 != t341) = true
                    · rw [if_pos c105] at H
                      exact (laws_FnStrokesHeardOfAll.j7_no H).elim
                    · rw [if_neg c105] at H
                      have c105b0 : (t336 != t341) = false := by simpa using c105
                      (try (have c105b1 : decide (t336 = t341) = true := by simpa using c105))
                      (try (have c105b2 : (t336 == t341) = true := by simpa using c105))
                      clear c105
                      replace H := Option.bind_eq_some_iff.mp H
                      obtain ⟨t344, A1060, H⟩ := H
                      (try dsimp only at H)
                      have A106 := Aside0.mk A1060
                      clear A1060
                      by_cases c107 : t344 = true
                      · subst c107
                        have H1 := H
                        rw [if_pos rfl] at H1
                        clear H
                        have H := H1
                        clear H1
                        have H' := Aside0.mk H
                        clear H
                        obtain ⟨Ao108, co108, eo108⟩ := Kd.R_slice HO338.out
                        subst eo108
                        obtain ⟨Ao109, co109, eo109⟩ := Kd.R_slice HO343.out
                        subst eo109
                        go_wp2_with (first | (go_at_call 10; (with_reducible refine (laws_kSame.calls kj49 _ _ t334 _ _ t339 true _ ?side1 ?side2 ?side3 ?side4 A106.out).mono ?_); (case side1 => repeat (first | exact (Kd.R_reads' HO338.out).2.2 | (with_reducible refine Kd.C_alloc ?_ _) | (with_reducible refine Kd.C_drewN ?_ _) | (with_reducible refine Kd.C_drew ?_))); (case side2 => exact (Kd.R_reads' HO338.out).2.1); (case side3 => repeat (first | exact (Kd.R_reads' HO343.out).2.2 | (with_reducible refine Kd.C_alloc ?_ _) | (with_reducible refine Kd.C_drewN ?_ _) | (with_reducible refine Kd.C_drew ?_))); (case side4 => exact (Kd.R_reads' HO343.out).2.1); rintro e w' ⟨rfl, ⟨nd, rfl⟩⟩))
                        go_meet
                        case rel => exact ⟨_, ((t335 != t340)), (by first | rfl | (simp; done) | (simp [*]; done)), H', ⟨by have := HJ12.out; have := HJ49.out; first | omega | exact Nat.le_refl _⟩, ⟨by (with_reducible repeat (first | apply Kd.R_alloc | apply Kd.R_drewN | apply Kd.R_drew)); exact Kd.R_mono HO338.out (fun _ hk => trivial)⟩, ⟨by repeat (first | (with_reducible first | exact HB.out | apply below_alloc | apply pw_below_drewN | apply below_drew1) | exact HB.out)⟩⟩
                      · replace c107 := Bool.eq_false_iff.mpr c107
                        subst c107
                        have H1 := H
                        rw [if_neg (show ¬ (false = true) by decide)] at H1
                        clear H
                        have H := H1
                        exact (laws_FnStrokesHeardOfAll.j7_no H).elim
                  · rw [if_neg c104] at H
                    exact (laws_FnStrokesHeardOfAll.j7_no H).elim
              case rest =>
                clear HC98
                try clear c1
                try clear c2
                try clear p2
                try clear c3
                try clear p3
                try clear q3
                try clear hx3
                try clear c4
                try clear c5
                try clear c6
                try clear c6b0
                try clear c6b1
                try clear p6
                try clear c7
                try clear c8
                try clear c9
                try clear c10
                try clear c11
                try clear c12
                try clear c13
                try clear c14
                try clear c15
                try clear c16
                try clear c20
                try clear c20b0
                try clear c20b1
                try clear c20b2
                try clear c22
                try clear c23
                try clear c23b0
                try clear c23b1
                try clear c23b2
                try clear c26
                try clear c26b0
                try clear c26b1
                try clear c26b2
                try clear c29
                try clear c29b0
                try clear c29b1
                try clear c29b2
                try clear p31
                try clear q31
                try clear hx31
                try clear p32
                try clear q32
                try clear hx32
                try clear c33
                try clear c34
                try clear c34b0
                try clear c34b1
                try clear c34b2
                try clear c49
                try clear c51
                try clear c53
                try clear c53b0
                try clear c53b1
                try clear c53b2
                try clear c57
                try clear c58
                try clear c58b0
                try clear c60
                try clear c63
                try clear c63b0
                try clear c63b1
                try clear c63b2
                try clear p64
                try clear c67
                try clear c67b0
                try clear c67b1
                try clear c69
                try clear c69b0
                try clear c70
                try clear c70b0
                try clear c71
                try clear c71b0
                try clear c72
                try clear c73
                try clear c82
                try clear c84
                try clear c86
                try clear c86b0
                try clear c87
                try clear c87b0
                try clear c88
                try clear c88b0
                try clear c90
                try clear c92
                try clear c92b0
                try clear c92b1
                try clear c103
                try clear c103b0
                try clear c103b1
                try clear c103b2
                try clear c104
                try clear c104b0
                try clear c104b1
                try clear c105
                try clear c105b0
                try clear c105b1
                try clear c105b2
                try clear c107
                try clear hx314_0
                try clear hx328_0
                try clear p2
                try clear p3
                try clear p31
                try clear p314
                try clear p32
                try clear p328
                try clear p6
                try clear p64
                try clear q3
                try clear q31
                try clear q314
                try clear q32
                try clear q328
                obtain ⟨kq, x263_97, rfl, HA, HJ97, HO_37, HB⟩ := hcut
                cases kq with
                | zero => exact absurd HA.out (by simp [laws_FnStrokesHeardOfAll.j7])
                | succ kj97 =>
                  have H := HA.out
                  clear HA
                  simp only [laws_FnStrokesHeardOfAll.j7] at H
                  by_cases c112 : x263_97 = true
                  · subst c112
                    have H1 := H
                    rw [if_pos rfl] at H1
                    clear H
                    have H := H1
                    clear H1
                    exact absurd H (by simp)
                  · replace c112 := Bool.eq_false_iff.mpr c112
                    subst c112
                    have H1 := H
                    rw [if_neg (show ¬ (false = true) by decide)] at H1
                    clear H
                    have H := H1
                    clear H1
                    have HC113 := Aside0.mk H
                    clear H
                    go_upto_if 264 with (fail)
                    go_cut [10, 43, 44, 45, 46, 47, 48] from 264 to 313 (fun v10 v43 v44 v45 v46 v47 v48 wc => ∃ (kq : Nat), Aside0 (laws_FnStrokesHeardOfAll.j9 kq a4 t334 t335 t336 = some true) ∧ Aside0 (kq ≤ kj97) ∧ Aside0 (Kd.R (Kd.int .i64) 3 wc w.heap.size (fun _ => True) v337 t334) ∧ Aside0 (Below w.heap.size w wc))
                    case first =>
                      have H := HC113.out
                      clear HC113
                      by_cases c114 : t331 = true
                      · subst c114
                        have H1 := H
                        rw [if_pos rfl] at H1
                        clear H
                        have H := H1
                        clear H1
                        replace H := Option.bind_eq_some_iff.mp H
                        obtain ⟨⟨t345, t346⟩, A1150, H⟩ := H
                        (try dsimp only at H)
                        have A115 := Aside0.mk A1150
                        clear A1150
                        replace H := Option.bind_eq_some_iff.mp H
                        obtain ⟨⟨t349, t350⟩, A1160, H⟩ := H
                        (try dsimp only at H)
                        have A116 := Aside0.mk A1160
                        clear A1160
                        have HC117 := Aside0.mk H
                        clear H
                        go_upto_region 47 with (first | ((with_reducible refine gate_callee (f := 11) rfl ?_); refine goesL_ (some 269) rfl rfl Try.func11 (by kernel_rfl) rfl #[.int .i64 a2, .int .i64 a3, .int .i64 t330] rfl (by (try simp only [List.map_toArray, List.map_cons, List.map_nil]); first | done | rfl | (simp only [List.length_drop, List.length_take]; rfl)) ?_; (with_reducible refine (impl_HeardFrom.calls kj97 a2 a3 t330 t345 t346 _ A115.out).mono ?_); rintro e w118 ⟨v347, rfl, ho0, hb⟩; refine ⟨_, rfl, ?_⟩; have n0_ := Aside0.mk (Kd.R_elder' (by (with_reducible repeat (first | apply Kd.R_alloc | apply Kd.R_drewN | apply Kd.R_drew)); exact HO_37.out) (Kd.R_base ho0) hb); have n1_ := Aside0.mk (Kd.R_lower (Kd.R_new' ho0 (Kd.R_lt (by (with_reducible repeat (first | apply Kd.R_alloc | apply Kd.R_drewN | apply Kd.R_drew)); exact HO_37.out))) (below_size (by repeat (first | (with_reducible first | exact HB.out | apply below_alloc | apply pw_below_drewN | apply below_drew1) | exact HB.out)))); replace HB := zB HB hb; clear HO_37; have HO_37 := n0_; have HO348 := n1_; clear n0_ n1_; (try clear hb); (try clear hb2); (try clear hk); (try clear hi); (try clear ho0); obtain ⟨Ao119, co119, eo119⟩ := Kd.R_slice HO348.out; subst eo119) | ((with_reducible refine gate_callee (f := 4) rfl ?_); refine goesL_ (some 275) rfl rfl Try.func4 (by kernel_rfl) rfl #[.int .i64 a2, .slice Ao119 t345.length co119] rfl (by (try simp only [List.map_toArray, List.map_cons, List.map_nil]); first | done | rfl | (simp only [List.length_drop, List.length_take]; rfl)) ?_; (with_reducible refine (impl_HalvesOfHeard.calls kj97 a2 _ _ t345 t349 t350 _ ?side1 ?side2 A116.out).mono ?_); (case side1 => repeat (first | exact (Kd.R_reads' HO348.out).2.2 | (with_reducible refine Kd.C_alloc ?_ _) | (with_reducible refine Kd.C_drewN ?_ _) | (with_reducible refine Kd.C_drew ?_))); (case side2 => exact (Kd.R_reads' HO348.out).2.1); rintro e w120 ⟨v351, rfl, ho0, hb⟩; refine ⟨_, rfl, ?_⟩; have n0_ := Aside0.mk (Kd.R_elder' (by (with_reducible repeat (first | apply Kd.R_alloc | apply Kd.R_drewN | apply Kd.R_drew)); exact HO_37.out) (Kd.R_base ho0) hb); have n1_ := Aside0.mk (Kd.R_elder' (by (with_reducible repeat (first | apply Kd.R_alloc | apply Kd.R_drewN | apply Kd.R_drew)); exact HO348.out) (Kd.R_base ho0) hb); have n2_ := Aside0.mk (Kd.R_lower (Kd.R_new' (Kd.R_new' ho0 (Kd.R_lt (by (with_reducible repeat (first | apply Kd.R_alloc | apply Kd.R_drewN | apply Kd.R_drew)); exact HO_37.out))) (Kd.R_lt (by (with_reducible repeat (first | apply Kd.R_alloc | apply Kd.R_drewN | apply Kd.R_drew)); exact HO348.out))) (below_size (by repeat (first | (with_reducible first | exact HB.out | apply below_alloc | apply pw_below_drewN | apply below_drew1) | exact HB.out)))); replace HB := zB HB hb; clear HO_37; clear HO348; have HO_37 := n0_; have HO348 := n1_; have HO352 := n2_; clear n0_ n1_ n2_; (try clear hb); (try clear hb2); (try clear hk); (try clear hi); (try clear ho0)))
                        (try simp only [Act.put, List.setIfInBounds_toArray, List.set_cons_zero, List.set_cons_succ])
                        go_cut [295] from 278 to 295 (fun v295 wc => ∃ (kq : Nat) (x295_116 : Bool), v295 = .bool x295_116 ∧ Aside0 (laws_FnStrokesHeardOfAll.j8 kq a2 a4 t330 t334 t335 t336 t345 x295_116 = some true) ∧ Aside0 (kq ≤ kj97) ∧ Aside0 (Kd.R (Kd.int .i64) 3 wc w.heap.size (fun k_ => some k_ ≠ ((.slice Ao119 t345.length co119) : Value).ownBlock) v337 t334) ∧ Aside0 (Kd.R (Kd.int .i64) 3 wc w.heap.size (fun k_ => some k_ ≠ (v337 : Value).ownBlock) (.slice Ao119 t345.length co119) t345) ∧ Aside0 (Below w.heap.size w wc))
                        case first =>
                          have H := HC117.out
                          clear HC117
                          by_cases c121 : t346 = true
                          · subst c121
                            have H1 := H
                            rw [if_pos rfl] at H1
                            clear H
                            have H := H1
                            clear H1
                            by_cases c122 : t350 = true
                            · subst c122
                              have H1 := H
                              rw [if_pos rfl] at H1
                              clear H
                              have H := H1
                              clear H1
                              by_cases c123 : (t349.length : Int) = 1
                              · rw [if_pos c123] at H
                                have c123b0 : ((t349.length : Int) == 1) = true := beq_iff_eq.mpr c123
                                have c123b1 : ((t349.length : Int) != 1) = false := bne_eq_false_iff_eq.mpr c123
                                clear c123
                                (first | rw [c123b0] | (simp only [i64_w, i32_w]; rw [c123b0]) | skip)
                                by_cases c124 : 0 < (t349.length : Int)
                                · rw [if_pos c124] at H
                                  have c124b0 : decide (0 < (t349.length : Int)) = true := decide_eq_true c124
                                  have c124b1 : decide (0 < t349.length) = true := decide_eq_true (by omega)
                                  clear c124
                                  have H' := Aside0.mk H
                                  clear H
                                  obtain ⟨Ao125, co125, eo125⟩ := Kd.R_slice HO352.out
                                  subst eo125
                                  have p353 : 0 ≤ (0 : Int) := (by omega)
                                  have q353 : 0 < (t349.length : Int) := of_decide_eq_true (by first | (with_reducible assumption) | assumption)
                                  obtain ⟨ad353, e353, hx353_0⟩ := Kd.at_int (Kd.R_reads' HO352.out).2.2 0 p353 q353
                                  cases e353
                                  have qi353 : (0 < t349.length) = True := eq_true (by omega)
                                  (try rw [show ((0 : Int)).toNat = 0 from rfl] at hx353_0)
                                  (try rw [Addr.add_zero'] at hx353_0)
                                  replace p353 := eq_true p353
                                  replace q353 := eq_true q353
                                  go_wp2
                                  go_meet
                                  case rel => exact ⟨_, (((rd t349 0) != a3)), (by first | rfl | (simp; done) | (simp [*]; done)), H', ⟨by have := HJ12.out; have := HJ49.out; have := HJ97.out; first | omega | exact Nat.le_refl _⟩, ⟨by (with_reducible repeat (first | apply Kd.R_alloc | apply Kd.R_drewN | apply Kd.R_drew)); exact Kd.R_mono HO_37.out (fun _ hk => hk.1.2)⟩, ⟨by (with_reducible repeat (first | apply Kd.R_alloc | apply Kd.R_drewN | apply Kd.R_drew)); exact Kd.R_mono HO348.out (fun _ hk => hk.1.2)⟩, ⟨by repeat (first | (with_reducible first | exact HB.out | apply below_alloc | apply pw_below_drewN | apply below_drew1) | exact HB.out)⟩⟩
                                · rw [if_neg c124] at H
                                  exact absurd H (by simp)
                              · rw [if_neg c123] at H
                                exact (laws_FnStrokesHeardOfAll.j8_no H).elim
                            · replace c122 := Bool.eq_false_iff.mpr c122
                              subst c122
                              have H1 := H
                              rw [if_neg (show ¬ (false = true) by decide)] at H1
                              clear H
                              have H := H1
                              exact (laws_FnStrokesHeardOfAll.j8_no H).elim
                          · replace c121 := Bool.eq_false_iff.mpr c121
                            subst c121
                            have H1 := H
                            rw [if_neg (show ¬ (false = true) by decide)] at H1
                            clear H
                            have H := H1
                            exact (laws_FnStrokesHeardOfAll.j8_no H).elim
                        case rest =>
                          clear HC117
                          try clear c1
                          try clear c2
                          try clear p2
                          try clear c3
                          try clear p3
                          try clear q3
                          try clear hx3
                          try clear qi3
                          try clear c4
                          try clear c5
                          try clear c6
                          try clear c6b0
                          try clear c6b1
                          try clear p6
                          try clear c7
                          try clear c8
                          try clear c9
                          try clear c10
                          try clear c11
                          try clear c12
                          try clear c13
                          try clear c14
                          try clear c15
                          try clear c16
                          try clear c20
                          try clear c20b0
                          try clear c20b1
                          try clear c20b2
                          try clear c22
                          try clear c23
                          try clear c23b0
                          try clear c23b1
                          try clear c23b2
                          try clear c26
                          try clear c26b0
                          try clear c26b1
                          try clear c26b2
                          try clear c29
                          try clear c29b0
                          try clear c29b1
                          try clear c29b2
                          try clear p31
                          try clear q31
                          try clear hx31
                          try clear p32
                          try clear q32
                          try clear hx32
                          try clear c33
                          try clear c34
                          try clear c34b0
                          try clear c34b1
                          try clear c34b2
                          try clear p35
                          try clear q35
                          try clear hx35
                          try clear qi35
                          try clear c49
                          try clear c51
                          try clear c53
                          try clear c53b0
                          try clear c53b1
                          try clear c53b2
                          try clear c57
                          try clear c58
                          try clear c58b0
                          try clear c60
                          try clear c63
                          try clear c63b0
                          try clear c63b1
                          try clear c63b2
                          try clear p64
                          try clear c67
                          try clear c67b0
                          try clear c67b1
                          try clear c69
                          try clear c69b0
                          try clear c70
                          try clear c70b0
                          try clear c71
                          try clear c71b0
                          try clear c72
                          try clear c73
                          try clear c82
                          try clear c84
                          try clear c86
                          try clear c86b0
                          try clear c87
                          try clear c87b0
                          try clear c88
                          try clear c88b0
                          try clear c90
                          try clear c92
                          try clear c92b0
                          try clear c92b1
                          try clear c103
                          try clear c103b0
                          try clear c103b1
                          try clear c103b2
                          try clear c104
                          try clear c104b0
                          try clear c104b1
                          try clear c105
                          try clear c105b0
                          try clear c105b1
                          try clear c105b2
                          try clear c107
                          try clear c112
                          try clear c114
                          try clear c121
                          try clear c122
                          try clear c123
                          try clear c123b0
                          try clear c123b1
                          try clear c124
                          try clear c124b0
                          try clear c124b1
                          try clear hx314_0
                          try clear hx328_0
                          try clear hx353_0
                          try clear p2
                          try clear p3
                          try clear p31
                          try clear p314
                          try clear p32
                          try clear p328
                          try clear p353
                          try clear p6
                          try clear p64
                          try clear q3
                          try clear q31
                          try clear q314
                          try clear q32
                          try clear q328
                          try clear q353
                          obtain ⟨kq, x295_116, rfl, HA, HJ116, HO_37, HO_43, HB⟩ := hcut
                          cases kq with
                          | zero => exact absurd HA.out (by simp [laws_FnStrokesHeardOfAll.j8])
                          | succ kj116 =>
                            have H := HA.out
                            clear HA
                            simp only [laws_FnStrokesHeardOfAll.j8] at H
                            by_cases c127 : x295_116 = true
                            · subst c127
                              have H1 := H
                              rw [if_pos rfl] at H1
                              clear H
                              have H := H1
                              clear H1
                              exact absurd H (by simp)
                            · replace c127 := Bool.eq_false_iff.mpr c127
                              subst c127
                              have H1 := H
                              rw [if_neg (show ¬ (false = true) by decide)] at H1
                              clear H
                              have H := H1
                              clear H1
                              by_cases c128 : t330 > 1
                              · rw [if_pos c128] at H
                                have c128b0 : decide (1 < t330) = true := decide_eq_true c128
                                clear c128
                                obtain ⟨ji129, hji129⟩ : ∃ j_ : Int, (wrap64 (t330 - 1)) = j_ := ⟨_, rfl⟩
                                replace H : (if 0 ≤ (ji129) then (if (ji129) ≤ (t345.length : Int) then ((impl_HalvesOfHeard.f kj116 a2 (t345.take ((ji129) : Int).toNat)).bind fun bt358 => (if bt358.2 = true then (if (bt358.1.length : Int) < 2 then (some false) else (laws_FnStrokesHeardOfAll.j9 kj116 a4 t334 t335 t336)) else (some false))) else (none)) else (none)) = some true := by first | (rw [hji129] at H; exact H) | (simp only [hji129] at H ⊢; exact H)
                                have hji129w : (IntKind.i64.wrap (t330 - 1)) = ji129 := (i64_w _).trans hji129
                                by_cases c130 : 0 ≤ (ji129)
                                · rw [if_pos c130] at H
                                  have c130b0 := eq_true c130
                                  have c130b1 : decide (0 ≤ (ji129)) = true := decide_eq_true c130
                                  clear c130
                                  by_cases c131 : (ji129) ≤ (t345.length : Int)
                                  · rw [if_pos c131] at H
                                    have c131b0 := eq_true c131
                                    have c131b1 : decide ((ji129) ≤ (t345.length : Int)) = true := decide_eq_true c131
                                    clear c131
                                    obtain ⟨y354, hy354⟩ : ∃ y_ : List Int, y_ = (t345.take ((ji129) : Int).toNat) := ⟨_, rfl⟩
                                    replace H : ((impl_HalvesOfHeard.f kj116 a2 y354).bind fun bt358 => (if bt358.2 = true then (if (bt358.1.length : Int) < 2 then (some false) else (laws_FnStrokesHeardOfAll.j9 kj116 a4 t334 t335 t336)) else (some false))) = some true := by first | (rw [hy354]; with_reducible exact H) | (have H2_ := (Option.bind_some _ _).symm.trans H; rw [hy354]; with_reducible exact H2_) | (have H2_ := (Option.bind_some _ _).symm.trans H; with_reducible exact H2_) | with_reducible exact H | (rw [hy354]; exact H) | exact H
                                    have Ny354 := Aside0.mk hy354
                                    clear hy354
                                    replace H := Option.bind_eq_some_iff.mp H
                                    obtain ⟨⟨t358, t359⟩, A1320, H⟩ := H
                                    (try dsimp only at H)
                                    have A132 := Aside0.mk A1320
                                    clear A1320
                                    by_cases c133 : t359 = true
                                    · subst c133
                                      have H1 := H
                                      rw [if_pos rfl] at H1
                                      clear H
                                      have H := H1
                                      clear H1
                                      by_cases c134 : (t358.length : Int) < 2
                                      · rw [if_pos c134] at H
                                        have c134b0 : decide ((t358.length : Int) < 2) = true := decide_eq_true c134
                                        have c134b1 : decide (t358.length < 2) = true := decide_eq_true (by omega)
                                        clear c134
                                        exact absurd H (by simp)
                                      · rw [if_neg c134] at H
                                        have c134b0 : decide ((t358.length : Int) < 2) = false := decide_eq_false c134
                                        have c134b1 : decide (t358.length < 2) = false := decide_eq_false (by omega)
                                        clear c134
                                        have H' := Aside0.mk H
                                        clear H
                                        have q135 : ((ji129) : Int) ≤ ((t345.length : Int) : Int) := of_decide_eq_true (by first | (with_reducible assumption) | assumption)
                                        obtain ⟨i0135, hi0135, _, hsz135, _⟩ := info_parts info3
                                        have hroom135 : t345.length ≤ co119 := (Kd.R_reads' HO_43.out).2.1
                                        have hC135 : Kd.C (Kd.int .i64) _ Ao119 t345.length t345 := (Kd.R_reads' HO_43.out).2.2
                                        have hcut135 := cut_to (P := Try.prog) 22 3 .i64 Try.underlying22 hi0135 Ao119 t345.length co119 (ji129) (of_decide_eq_true (by first | (with_reducible assumption) | assumption)) q135 hroom135
                                        have hr135 := Kd.C_take (m := ((ji129) : Int).toNat) hC135 (by omega)
                                        have hy135 : y354.length = ((ji129) : Int).toNat := (by rw [Ny354.out, List.length_take]; omega)
                                        rw [← Ny354.out] at hr135
                                        rw [← hy135] at hcut135
                                        have HR357 := Aside0.mk hr135
                                        have HC357 := Aside0.mk (show y354.length ≤ co119 from by omega)
                                        clear hr135 hC135 hroom135 hi0135 hsz135
                                        have KY135 := Aside0.mk hy135
                                        clear hy135
                                        have KL135 := Aside0.mk (show ((ji129) : Int).toNat ≤ t345.length from by omega)
                                        replace q135 := eq_true q135
                                        go_wp2_with (first | ((with_reducible refine gate_callee (f := 4) rfl ?_); refine goesL_ (some 304) rfl rfl Try.func4 (by kernel_rfl) rfl #[.int .i64 a2, .slice Ao119 y354.length co119] rfl (by (try simp only [List.map_toArray, List.map_cons, List.map_nil]); first | done | rfl | (simp only [List.length_drop, List.length_take]; rfl)) ?_; (with_reducible refine (impl_HalvesOfHeard.calls kj116 a2 _ _ y354 t358 true _ ?side1 ?side2 A132.out).mono ?_); (case side1 => repeat (first | exact (by repeat (first | (with_reducible exact HR357.out) | (with_reducible refine Kd.C_alloc ?_ _) | (with_reducible refine Kd.C_drewN ?_ _) | (with_reducible refine Kd.C_drew ?_) | exact HR357.out)) | (with_reducible refine Kd.C_alloc ?_ _) | (with_reducible refine Kd.C_drewN ?_ _) | (with_reducible refine Kd.C_drew ?_))); (case side2 => exact HC357.out); rintro e w136 ⟨v360, rfl, ho0, hb⟩; refine ⟨_, rfl, ?_⟩; have n0_ := Aside0.mk (Kd.R_elder' (by (with_reducible repeat (first | apply Kd.R_alloc | apply Kd.R_drewN | apply Kd.R_drew)); exact HO_37.out) (Kd.R_base ho0) hb); have n1_ := Aside0.mk (Kd.R_elder' (by (with_reducible repeat (first | apply Kd.R_alloc | apply Kd.R_drewN | apply Kd.R_drew)); exact HO_43.out) (Kd.R_base ho0) hb); have n2_ := Aside0.mk (Kd.R_lower (Kd.R_new' (Kd.R_new' ho0 (Kd.R_lt (by (with_reducible repeat (first | apply Kd.R_alloc | apply Kd.R_drewN | apply Kd.R_drew)); exact HO_37.out))) (Kd.R_lt (by (with_reducible repeat (first | apply Kd.R_alloc | apply Kd.R_drewN | apply Kd.R_drew)); exact HO_43.out))) (below_size (by repeat (first | (with_reducible first | exact HB.out | apply below_alloc | apply pw_below_drewN | apply below_drew1) | exact HB.out)))); have n3_ := Aside0.mk (Kd.C_below (by repeat (first | (with_reducible exact HR357.out) | (with_reducible refine Kd.C_alloc ?_ _) | (with_reducible refine Kd.C_drewN ?_ _) | (with_reducible refine Kd.C_drew ?_) | exact HR357.out)) hb); replace HB := zB HB hb; clear HO_37; clear HO_43; clear HR357; have HO_37 := n0_; have HO_43 := n1_; have HO361 := n2_; have HR357 := n3_; clear n0_ n1_ n2_ n3_; (try clear hb); (try clear hb2); (try clear hk); (try clear hi); (try clear ho0); obtain ⟨Ao137, co137, eo137⟩ := Kd.R_slice HO361.out; subst eo137))
                                        go_meet
                                        case rel => exact ⟨_, H', ⟨by have := HJ12.out; have := HJ49.out; have := HJ97.out; have := HJ116.out; first | omega | exact Nat.le_refl _⟩, ⟨by (with_reducible repeat (first | apply Kd.R_alloc | apply Kd.R_drewN | apply Kd.R_drew)); exact Kd.R_mono HO_37.out (fun _ hk => trivial)⟩, ⟨by repeat (first | (with_reducible first | exact HB.out | apply below_alloc | apply pw_below_drewN | apply below_drew1) | exact HB.out)⟩⟩
                                    · replace c133 := Bool.eq_false_iff.mpr c133
                                      subst c133
                                      have H1 := H
                                      rw [if_neg (show ¬ (false = true) by decide)] at H1
                                      clear H
                                      have H := H1
                                      clear H1
                                      exact absurd H (by simp)
                                  · rw [if_neg c131] at H
                                    exact absurd H (by simp)
                                · rw [if_neg c130] at H
                                  exact absurd H (by simp)
                              · rw [if_neg c128] at H
                                have c128b0 : decide (1 < t330) = false := decide_eq_false c128
                                clear c128
                                have H' := Aside0.mk H
                                clear H
                                go_wp2
                                go_meet
                                case rel => exact ⟨_, H', ⟨by have := HJ12.out; have := HJ49.out; have := HJ97.out; have := HJ116.out; first | omega | exact Nat.le_refl _⟩, ⟨by (with_reducible repeat (first | apply Kd.R_alloc | apply Kd.R_drewN | apply Kd.R_drew)); exact Kd.R_mono HO_37.out (fun _ hk => trivial)⟩, ⟨by repeat (first | (with_reducible first | exact HB.out | apply below_alloc | apply pw_below_drewN | apply below_drew1) | exact HB.out)⟩⟩
                      · replace c114 := Bool.eq_false_iff.mpr c114
                        subst c114
                        have H1 := H
                        rw [if_neg (show ¬ (false = true) by decide)] at H1
                        clear H
                        have H := H1
                        clear H1
                        have H' := Aside0.mk H
                        clear H
                        go_wp2
                        go_meet
                        case rel => exact ⟨_, H', ⟨by have := HJ12.out; have := HJ49.out; have := HJ97.out; first | omega | exact Nat.le_refl _⟩, ⟨by (with_reducible repeat (first | apply Kd.R_alloc | apply Kd.R_drewN | apply Kd.R_drew)); exact HO_37.out⟩, ⟨by repeat (first | (with_reducible first | exact HB.out | apply below_alloc | apply pw_below_drewN | apply below_drew1) | exact HB.out)⟩⟩
                    case rest =>
                      clear HC113
                      try clear c1
                      try clear q1
                      try clear c2
                      try clear p2
                      try clear c3
                      try clear p3
                      try clear q3
                      try clear hx3
                      try clear qi3
                      try clear c4
                      try clear c5
                      try clear c6
                      try clear c6b0
                      try clear c6b1
                      try clear p6
                      try clear c7
                      try clear c8
                      try clear c9
                      try clear c10
                      try clear c11
                      try clear c12
                      try clear c13
                      try clear q13
                      try clear c14
                      try clear c15
                      try clear c16
                      try clear c20
                      try clear c20b0
                      try clear c20b1
                      try clear c20b2
                      try clear c22
                      try clear c23
                      try clear c23b0
                      try clear c23b1
                      try clear c23b2
                      try clear c26
                      try clear c26b0
                      try clear c26b1
                      try clear c26b2
                      try clear c29
                      try clear c29b0
                      try clear c29b1
                      try clear c29b2
                      try clear p31
                      try clear q31
                      try clear hx31
                      try clear p32
                      try clear q32
                      try clear hx32
                      try clear c33
                      try clear c34
                      try clear c34b0
                      try clear c34b1
                      try clear c34b2
                      try clear p35
                      try clear q35
                      try clear hx35
                      try clear qi35
                      try clear c49
                      try clear c51
                      try clear c53
                      try clear c53b0
                      try clear c53b1
                      try clear c53b2
                      try clear c57
                      try clear c58
                      try clear c58b0
                      try clear c60
                      try clear c63
                      try clear c63b0
                      try clear c63b1
                      try clear c63b2
                      try clear p64
                      try clear c67
                      try clear c67b0
                      try clear c67b1
                      try clear c69
                      try clear c69b0
                      try clear c70
                      try clear c70b0
                      try clear c71
                      try clear c71b0
                      try clear c72
                      try clear c73
                      try clear c82
                      try clear c84
                      try clear c86
                      try clear c86b0
                      try clear c87
                      try clear c87b0
                      try clear c88
                      try clear c88b0
                      try clear c90
                      try clear c92
                      try clear c92b0
                      try clear c92b1
                      try clear c103
                      try clear c103b0
                      try clear c103b1
                      try clear c103b2
                      try clear c104
                      try clear c104b0
                      try clear c104b1
                      try clear c105
                      try clear c105b0
                      try clear c105b1
                      try clear c105b2
                      try clear c107
                      try clear c112
                      try clear c114
                      try clear c121
                      try clear c122
                      try clear c123
                      try clear c123b0
                      try clear c123b1
                      try clear c124
                      try clear c124b0
                      try clear c124b1
                      try clear c127
                      try clear c128
                      try clear c128b0
                      try clear c130
                      try clear c130b0
                      try clear c130b1
                      try clear c131
                      try clear c131b0
                      try clear c131b1
                      try clear c133
                      try clear c134
                      try clear c134b0
                      try clear c134b1
                      try clear q135
                      try clear hx314_0
                      try clear hx328_0
                      try clear hx353_0
                      try clear p2
                      try clear p3
                      try clear p31
                      try clear p314
                      try clear p32
                      try clear p328
                      try clear p35
                      try clear p353
                      try clear p6
                      try clear p64
                      try clear q135
                      try clear q3
                      try clear q31
                      try clear q314
                      try clear q32
                      try clear q328
                      try clear q35
                      try clear q353
                      obtain ⟨kq, HA, HJ112, HO_37, HB⟩ := hcut
                      cases kq with
                      | zero => exact absurd HA.out (by simp [laws_FnStrokesHeardOfAll.j9])
                      | succ kj112 =>
                        have H := HA.out
                        clear HA
                        simp only [laws_FnStrokesHeardOfAll.j9] at H
                        by_cases c138 : t336 = true
                        · subst c138
                          have H1 := H
                          rw [if_pos rfl] at H1
                          clear H
                          have H := H1
                          clear H1
                          have H' := Aside0.mk H
                          clear H
                          go_wp2
                          go_loopg [49] kj112 (fun kq v49 w' => ∃ (x49_5 : Int), v49 = .int .i64 x49_5 ∧ Aside0 (laws_FnStrokesHeardOfAll.l3 kq a4 t334 t335 x49_5 = some true) ∧ Aside0 (kq ≤ kj112) ∧ Aside0 (Kd.R (Kd.int .i64) 3 w' w.heap.size (fun _ => True) v337 t334) ∧ Aside0 (Below w.heap.size w w'))
                          case atStart => exact ⟨(0), (by first | rfl | (simp; done) | (simp [*]; done)), H', ⟨Nat.le_refl _⟩, ⟨by (with_reducible repeat (first | apply Kd.R_alloc | apply Kd.R_drewN | apply Kd.R_drew)); exact HO_37.out⟩, ⟨by repeat (first | (with_reducible first | exact HB.out | apply below_alloc | apply pw_below_drewN | apply below_drew1) | exact HB.out)⟩⟩
                          case round =>
                            clear H'
                            try clear c1
                            try clear q1
                            try clear c2
                            try clear p2
                            try clear c3
                            try clear p3
                            try clear q3
                            try clear hx3
                            try clear qi3
                            try clear c4
                            try clear c5
                            try clear c6
                            try clear c6b0
                            try clear c6b1
                            try clear p6
                            try clear c7
                            try clear c8
                            try clear c9
                            try clear c10
                            try clear c11
                            try clear c12
                            try clear c13
                            try clear q13
                            try clear c14
                            try clear c15
                            try clear c16
                            try clear c20
                            try clear c20b0
                            try clear c20b1
                            try clear c20b2
                            try clear c22
                            try clear c23
                            try clear c23b0
                            try clear c23b1
                            try clear c23b2
                            try clear c26
                            try clear c26b0
                            try clear c26b1
                            try clear c26b2
                            try clear c29
                            try clear c29b0
                            try clear c29b1
                            try clear c29b2
                            try clear p31
                            try clear q31
                            try clear hx31
                            try clear p32
                            try clear q32
                            try clear hx32
                            try clear c33
                            try clear c34
                            try clear c34b0
                            try clear c34b1
                            try clear c34b2
                            try clear p35
                            try clear q35
                            try clear hx35
                            try clear qi35
                            try clear c49
                            try clear c51
                            try clear c53
                            try clear c53b0
                            try clear c53b1
                            try clear c53b2
                            try clear c57
                            try clear c58
                            try clear c58b0
                            try clear c60
                            try clear c63
                            try clear c63b0
                            try clear c63b1
                            try clear c63b2
                            try clear p64
                            try clear c67
                            try clear c67b0
                            try clear c67b1
                            try clear c69
                            try clear c69b0
                            try clear c70
                            try clear c70b0
                            try clear c71
                            try clear c71b0
                            try clear c72
                            try clear c73
                            try clear c82
                            try clear c84
                            try clear c86
                            try clear c86b0
                            try clear c87
                            try clear c87b0
                            try clear c88
                            try clear c88b0
                            try clear c90
                            try clear c92
                            try clear c92b0
                            try clear c92b1
                            try clear c103
                            try clear c103b0
                            try clear c103b1
                            try clear c103b2
                            try clear c104
                            try clear c104b0
                            try clear c104b1
                            try clear c105
                            try clear c105b0
                            try clear c105b1
                            try clear c105b2
                            try clear c107
                            try clear c112
                            try clear c114
                            try clear c121
                            try clear c122
                            try clear c123
                            try clear c123b0
                            try clear c123b1
                            try clear c124
                            try clear c124b0
                            try clear c124b1
                            try clear c127
                            try clear c128
                            try clear c128b0
                            try clear c130
                            try clear c130b0
                            try clear c130b1
                            try clear c131
                            try clear c131b0
                            try clear c131b1
                            try clear c133
                            try clear c134
                            try clear c134b0
                            try clear c134b1
                            try clear q135
                            try clear c138
                            try clear hx314_0
                            try clear hx328_0
                            try clear hx353_0
                            try clear p2
                            try clear p3
                            try clear p31
                            try clear p314
                            try clear p32
                            try clear p328
                            try clear p35
                            try clear p353
                            try clear p6
                            try clear p64
                            try clear q1
                            try clear q13
                            try clear q135
                            try clear q3
                            try clear q31
                            try clear q314
                            try clear q32
                            try clear q328
                            try clear q35
                            try clear q353
                            obtain ⟨x49_5, rfl, HA, HK5, HO_37, HB⟩ := hrel
                            cases gk with
                            | zero => exact absurd HA.out (by simp [laws_FnStrokesHeardOfAll.l3])
                            | succ k5 =>
                              have H := HA.out
                              clear HA
                              simp only [laws_FnStrokesHeardOfAll.l3] at H
                              by_cases c139 : x49_5 < (wrap64 (2 * a4))
                              · rw [if_pos c139] at H
                                have c139b0 : decide (x49_5 < (wrap64 (2 * a4))) = true := decide_eq_true c139
                                clear c139
                                replace H := Option.bind_eq_some_iff.mp H
                                obtain ⟨⟨t362, t363⟩, A1400, H⟩ := H
                                (try dsimp only at H)
                                have A140 := Aside0.mk A1400
                                clear A1400
                                by_cases c141 : t363 = true
                                · subst c141
                                  have H1 := H
                                  rw [if_pos rfl] at H1
                                  clear H
                                  have H := H1
                                  clear H1
                                  by_cases c142 : t362 > t335
                                  · rw [if_pos c142] at H
                                    have c142b0 : decide (t335 < t362) = true := decide_eq_true c142
                                    clear c142
                                    exact absurd H (by simp)
                                  · rw [if_neg c142] at H
                                    have c142b0 : decide (t335 < t362) = false := decide_eq_false c142
                                    clear c142
                                    replace H := Option.bind_eq_some_iff.mp H
                                    obtain ⟨t364, A1430, H⟩ := H
                                    (try dsimp only at H)
                                    have A143 := Aside0.mk A1430
                                    clear A1430
                                    by_cases c144 : ((t362 == t335) != t364) = true
                                    · rw [if_pos c144] at H
                                      have c144b0 : ((t362 == t335) != t364) = true := c144
                                      (try (have c144b1 : decide ((t362 == t335) = t364) = false := by simpa using c144))
                                      (try (have c144b2 : ((t362 == t335) == t364) = false := by simpa using c144))
                                      (try (have c144b3 : ¬ ((t362 == t335) = t364) := by simpa using c144))
                                      clear c144
                                      exact absurd H (by simp)
                                    · rw [if_neg c144] at H
                                      have c144b0 : ((t362 == t335) != t364) = false := by simpa using c144
                                      (try (have c144b1 : decide ((t362 == t335) = t364) = true := by simpa using c144))
                                      (try (have c144b2 : ((t362 == t335) == t364) = true := by simpa using c144))
                                      clear c144
                                      have H' := Aside0.mk H
                                      clear H
                                      go_wp2_with (first | ((with_reducible refine gate_callee (f := 13) rfl ?_); refine goesL_ (some 324) rfl rfl Try.func13 (by kernel_rfl) rfl #[.int .i64 a4, .int .i64 x49_5] rfl (by (try simp only [List.map_toArray, List.map_cons, List.map_nil]); first | done | rfl | (simp only [List.length_drop, List.length_take]; rfl)) ?_; (with_reducible refine (impl_KnownAfter.calls k5 a4 x49_5 t362 true _ A140.out).mono ?_); rintro e w145 ⟨rfl, hb⟩; refine ⟨_, rfl, ?_⟩; have n0_ := Aside0.mk (Kd.R_below (by (with_reducible repeat (first | apply Kd.R_alloc | apply Kd.R_drewN | apply Kd.R_drew)); exact HO_37.out) hb); replace HB := zB HB hb; clear HO_37; have HO_37 := n0_; clear n0_; clear hb; obtain ⟨Ao146, co146, eo146⟩ := Kd.R_slice HO_37.out; subst eo146) | (go_at_call 12; (with_reducible refine (laws_kHas.calls k5 _ _ t334 x49_5 t364 _ ?side1 ?side2 A143.out).mono ?_); (case side1 => repeat (first | exact (Kd.R_reads' HO_37.out).2.2 | (with_reducible refine Kd.C_alloc ?_ _) | (with_reducible refine Kd.C_drewN ?_ _) | (with_reducible refine Kd.C_drew ?_))); (case side2 => exact (Kd.R_reads' HO_37.out).2.1); rintro e w' ⟨rfl, ⟨nd, rfl⟩⟩))
                                      go_roundg k5
                                      case measure => have := HJ12.out; have := HJ49.out; have := HJ97.out; have := HJ112.out; have := HK5.out; omega
                                      case rel => exact ⟨(wrap64 (x49_5 + 1)), (by first | rfl | (simp; done) | (simp [*]; done)), H', ⟨by have := HJ12.out; have := HJ49.out; have := HJ97.out; have := HJ112.out; have := HK5.out; omega⟩, ⟨by (with_reducible repeat (first | apply Kd.R_alloc | apply Kd.R_drewN | apply Kd.R_drew)); exact HO_37.out⟩, ⟨by repeat (first | (with_reducible first | exact HB.out | apply below_alloc | apply pw_below_drewN | apply below_drew1) | exact HB.out)⟩⟩
                                · replace c141 := Bool.eq_false_iff.mpr c141
                                  subst c141
                                  have H1 := H
                                  rw [if_neg (show ¬ (false = true) by decide)] at H1
                                  clear H
                                  have H := H1
                                  clear H1
                                  exact absurd H (by simp)
                              · rw [if_neg c139] at H
                                have c139b0 : decide (x49_5 < (wrap64 (2 * a4))) = false := decide_eq_false c139
                                clear c139
                                clear H
                                go_wp2
                                go_ret
                                exact ⟨by first | rfl | (simp [errW_none, errW_some] <;> rfl) | (simp [*, errW_none, errW_some] <;> rfl), by repeat (first | (with_reducible first | exact HB.out | apply below_alloc | apply pw_below_drewN | apply below_drew1) | exact HB.out)⟩
                        · replace c138 := Bool.eq_false_iff.mpr c138
                          subst c138
                          have H1 : (some true) = some true := rfl
                          clear H
                          have H := H1
                          clear H1
                          clear H
                          go_wp2
                          go_ret
                          exact ⟨by first | rfl | (simp [errW_none, errW_some] <;> rfl) | (simp [*, errW_none, errW_some] <;> rfl), by repeat (first | (with_reducible first | exact HB.out | apply below_alloc | apply pw_below_drewN | apply below_drew1) | exact HB.out)⟩

/-- THE ONE PURE STATEMENT of laws_FnStrokesHeardOfAll: yours. -/
def laws_FnStrokesHeardOfAll.Pure : Prop := ∀ (a0 : Int) (l1 : List Int) (a2 : Int) (a3 : Int) (a4 : Int), (Lit.int .i64 a0).wf = true → l1.length ≤ maxLen → l1.length * 8 ≤ 140737488351232 → (∀ x ∈ l1, (Lit.int .i64 x).wf = true) → (Lit.int .i64 a2).wf = true → (Lit.int .i64 a3).wf = true → (Lit.int .i64 a4).wf = true → ∃ k, laws_FnStrokesHeardOfAll.f k a0 l1 a2 a3 a4 = some true
theorem laws_FnStrokesHeardOfAll.walk (P : laws_FnStrokesHeardOfAll.Pure) (a0 : Int) (a1 : Option Addr) (len1 cap1 : Nat) (z1 : List Int) (a2 : Int) (a3 : Int) (a4 : Int) (w : World) (w0 : (Lit.int .i64 a0).wf = true) (w1 : (a1 = none ∧ len1 = 0 ∧ cap1 = 0 ∧ z1 = []) ∨ ∃ x, a1 = some x ∧ len1 ≤ cap1 ∧ cap1 ≤ maxLen ∧ z1.length = cap1 ∧ (∀ i, i < z1.length → w.cell? (x.add i) = some (.int .i64 (z1.getD i 0))) ∧ ∀ n ∈ z1, (Lit.int .i64 n).wf = true) (y1 : len1 * 8 ≤ 140737488351232) (w2 : (Lit.int .i64 a2).wf = true) (w3 : (Lit.int .i64 a3).wf = true) (w4 : (Lit.int .i64 a4).wf = true) :
    Calls Try.prog 3 #[.int .i64 a0, .slice a1 len1 cap1, .int .i64 a2, .int .i64 a3, .int .i64 a4] w fun e w' => e = .returned (.bool true) ∧ Below w.heap.size w w' := by
  obtain ⟨l1, rfl, hr1, hm1, hw1, hc1⟩ := ReadsInt.ofRowC w1
  obtain ⟨k, h⟩ := P a0 l1 a2 a3 a4 w0 hm1 y1 hw1 w2 w3 w4
  refine (laws_FnStrokesHeardOfAll.calls k a0 _ _ l1 a2 a3 a4 w (Kd.C_of_reads (d := (0 : Int)) (h1 := fun _ => rfl) hr1) hc1 h).mono ?_
  rintro e w' ⟨rfl, hd⟩
  exact ⟨rfl, hd⟩

end Go.Proofs.Ythdcdpilcfghlaa.PFnStrokesHeardOfAll
