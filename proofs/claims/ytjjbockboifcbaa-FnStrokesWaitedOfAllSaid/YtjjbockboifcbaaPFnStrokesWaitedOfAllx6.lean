/- A part of the walk of FnStrokesWaitedOfAll: which Lean function each Go function comes to, and that the machine's call does so. Written by a program of this repo (wip/gen/xprint.py). -/
import Derived.Test.YtjjbockboifcbaaPFnStrokesWaitedOfAllx0
import Derived.Test.YtjjbockboifcbaaPFnStrokesWaitedOfAllx1
import Derived.Test.YtjjbockboifcbaaPFnStrokesWaitedOfAllx2
import Derived.Test.YtjjbockboifcbaaPFnStrokesWaitedOfAllx3
import Derived.Test.YtjjbockboifcbaaPFnStrokesWaitedOfAllx4
import Derived.Test.YtjjbockboifcbaaPFnStrokesWaitedOfAllx5
namespace Go.Proofs.Ytjjbockboifcbaa.PFnStrokesWaitedOfAll
open Go.RowKit Go.Proofs.YtjjbockboifcbaaW.PrintWords Go.Proofs.YtjjbockboifcbaaW.PrintLast Go.Proofs.YtjjbockboifcbaaW.PrintMore
attribute [local go_sem] max2_int min2_int max_two min_two max_three min_three max_four min_four   -- for this text's walks alone
set_option linter.unusedVariables false
set_option linter.unusedSimpArgs false

/-! ### laws_FnStrokesWaitedOfAll: function 11 -/
mutual
def laws_FnStrokesWaitedOfAll.j0 : Nat → Int → Int → Int → Int → Int → Int → Int → Int → Int → Bool → List Int → Bool → Int → Int → Bool → Bool → Option (Bool)
  | 0, _, _, _, _, _, _, _, _, _, _, _, _, _, _, _, _ => none
  | k + 1, x0, x1, x2, x3, x4, x5, x6, x7, x21, x22, x25, x26, x29, x30, x31, x146 => if x146 = true then (some false) else (if x22 = true then (laws_FnStrokesWaitedOfAll.l0 k x0 x1 x2 x3 x4 x5 x6 x7 x21 x25 x26 x29 x30 x31 0) else (laws_FnStrokesWaitedOfAll.j3 k x3 x4 x5 x6 x7 x25 x26 x29 x30 x31))
def laws_FnStrokesWaitedOfAll.j3 : Nat → Int → Int → Int → Int → Int → List Int → Bool → Int → Int → Bool → Option (Bool)
  | 0, _, _, _, _, _, _, _, _, _, _ => none
  | k + 1, x3, x4, x5, x6, x7, x25, x26, x29, x30, x31 => if x26 = true then (laws_FnStrokesWaitedOfAll.l1 k x3 x4 x5 x6 x7 x25 x29 x30 x31 x25 (x25.length : Int) 0) else (laws_FnStrokesWaitedOfAll.j5 k x6 x7 x29 x30 x31)
def laws_FnStrokesWaitedOfAll.j5 : Nat → Int → Int → Int → Int → Bool → Option (Bool)
  | 0, _, _, _, _, _ => none
  | k + 1, x6, x7, x29, x30, x31 => if x31 = true then (laws_FnStrokesWaitedOfAll.l2 k x6 x7 x29 x30 0) else (some true)
def laws_FnStrokesWaitedOfAll.l2 : Nat → Int → Int → Int → Int → Int → Option (Bool)
  | 0, _, _, _, _, _ => none
  | k + 1, x6, x7, x29, x30, x46 => if x46 < (wrap64 (2 * x6)) then ((impl_StrokesBetween.f k x6 x46 (wrap64 ((wrap64 (x46 + x7)) - 1))).bind fun bt185 => (if bt185.2 = true then (if bt185.1 > x30 then (some false) else (if x46 < x29 then (if bt185.1 = x30 then (some false) else (if x46 = x29 then (some false) else (laws_FnStrokesWaitedOfAll.l2 k x6 x7 x29 x30 (wrap64 (x46 + 1))))) else (if x46 = x29 then (if bt185.1 = x30 then (laws_FnStrokesWaitedOfAll.l2 k x6 x7 x29 x30 (wrap64 (x46 + 1))) else (some false)) else (laws_FnStrokesWaitedOfAll.l2 k x6 x7 x29 x30 (wrap64 (x46 + 1)))))) else (some false))) else (some true)
def laws_FnStrokesWaitedOfAll.l1 : Nat → Int → Int → Int → Int → Int → List Int → Int → Int → Bool → List Int → Int → Int → Option (Bool)
  | 0, _, _, _, _, _, _, _, _, _, _, _, _ => none
  | k + 1, x3, x4, x5, x6, x7, x25, x29, x30, x31, x180, x181, x182 => if x182 < x181 then (if 0 ≤ x182 then (if x182 < (x180.length : Int) then (if (wrap64 (2 * x3)) = 0 then (none) else ((impl_StrokesAt.f x3 (Int.tmod (wrap64 (x4 + x182)) (wrap64 (2 * x3)))).bind fun bt183 => (if bt183.2 = true then (if (rd x180 x182) = bt183.1 then (laws_FnStrokesWaitedOfAll.l1 k x3 x4 x5 x6 x7 x25 x29 x30 x31 x180 x181 (wrap64 (x182 + 1))) else (some false)) else (some false)))) else (none)) else (none)) else (if (x25.length : Int) = x5 then (laws_FnStrokesWaitedOfAll.j5 k x6 x7 x29 x30 x31) else (some false))
def laws_FnStrokesWaitedOfAll.l0 : Nat → Int → Int → Int → Int → Int → Int → Int → Int → Int → List Int → Bool → Int → Int → Bool → Int → Option (Bool)
  | 0, _, _, _, _, _, _, _, _, _, _, _, _, _, _, _ => none
  | k + 1, x0, x1, x2, x3, x4, x5, x6, x7, x21, x25, x26, x29, x30, x31, x39 => if x39 ≤ x21 then (if (wrap64 (2 * x0)) = 0 then (none) else ((impl_StrokesAt.f x0 (Int.tmod (wrap64 (x1 + x39)) (wrap64 (2 * x0)))).bind fun bt180 => (if bt180.2 = true then (laws_FnStrokesWaitedOfAll.j2 k x0 x1 x2 x3 x4 x5 x6 x7 x21 x25 x26 x29 x30 x31 x39 ((bt180.1 == x2) != (x39 == x21))) else (laws_FnStrokesWaitedOfAll.j2 k x0 x1 x2 x3 x4 x5 x6 x7 x21 x25 x26 x29 x30 x31 x39 true)))) else (laws_FnStrokesWaitedOfAll.j3 k x3 x4 x5 x6 x7 x25 x26 x29 x30 x31)
def laws_FnStrokesWaitedOfAll.j2 : Nat → Int → Int → Int → Int → Int → Int → Int → Int → Int → List Int → Bool → Int → Int → Bool → Int → Bool → Option (Bool)
  | 0, _, _, _, _, _, _, _, _, _, _, _, _, _, _, _, _ => none
  | k + 1, x0, x1, x2, x3, x4, x5, x6, x7, x21, x25, x26, x29, x30, x31, x39, x174 => if x174 = true then (some false) else (if x39 ≥ (wrap64 (2 * x0)) then (some false) else (laws_FnStrokesWaitedOfAll.l0 k x0 x1 x2 x3 x4 x5 x6 x7 x21 x25 x26 x29 x30 x31 (wrap64 (x39 + 1))))
end
def laws_FnStrokesWaitedOfAll.f (k : Nat) (a0 : Int) (a1 : Int) (a2 : Int) (a3 : Int) (a4 : Int) (a5 : Int) (a6 : Int) (a7 : Int) (a8 : Int) (a9 : Int) : Option (Bool) := (impl_WaitForStrokes.f k a0 a1 a2).bind fun bt157 => ((spec_WaitForStrokes.f k a0 a1 a2).bind fun bt159 => ((impl_HeardFrom.f k a3 a4 a5).bind fun bt161 => ((spec_HeardFrom.f k a3 a4 a5).bind fun bt165 => ((impl_MostInHalves.f k a6 a7).bind fun bt169 => ((spec_MostInHalves.f k a6 a7).bind fun bt172 => ((impl_StrokesAt.f a8 a9).bind fun bt175 => ((spec_StrokesAt.f a8 a9).bind fun bt177 => (if (bt157.2 != bt159.2) = true then (laws_FnStrokesWaitedOfAll.j0 k a0 a1 a2 a3 a4 a5 a6 a7 bt157.1 bt157.2 bt161.1 bt161.2 bt169.1 bt169.2.1 bt169.2.2 true) else (if bt157.1 = bt159.1 then (if (bt161.2 != bt165.2) = true then (laws_FnStrokesWaitedOfAll.j0 k a0 a1 a2 a3 a4 a5 a6 a7 bt157.1 bt157.2 bt161.1 bt161.2 bt169.1 bt169.2.1 bt169.2.2 true) else ((laws_kSame.f k bt161.1 bt165.1).bind fun t179 => (if t179 = true then (if (bt169.2.2 != bt172.2.2) = true then (laws_FnStrokesWaitedOfAll.j0 k a0 a1 a2 a3 a4 a5 a6 a7 bt157.1 bt157.2 bt161.1 bt161.2 bt169.1 bt169.2.1 bt169.2.2 true) else (if bt169.1 = bt172.1 then (if bt169.2.1 = bt172.2.1 then (if (bt175.2 != bt177.2) = true then (laws_FnStrokesWaitedOfAll.j0 k a0 a1 a2 a3 a4 a5 a6 a7 bt157.1 bt157.2 bt161.1 bt161.2 bt169.1 bt169.2.1 bt169.2.2 true) else (laws_FnStrokesWaitedOfAll.j0 k a0 a1 a2 a3 a4 a5 a6 a7 bt157.1 bt157.2 bt161.1 bt161.2 bt169.1 bt169.2.1 bt169.2.2 (bt175.1 != bt177.1))) else (laws_FnStrokesWaitedOfAll.j0 k a0 a1 a2 a3 a4 a5 a6 a7 bt157.1 bt157.2 bt161.1 bt161.2 bt169.1 bt169.2.1 bt169.2.2 true)) else (laws_FnStrokesWaitedOfAll.j0 k a0 a1 a2 a3 a4 a5 a6 a7 bt157.1 bt157.2 bt161.1 bt161.2 bt169.1 bt169.2.1 bt169.2.2 true))) else (laws_FnStrokesWaitedOfAll.j0 k a0 a1 a2 a3 a4 a5 a6 a7 bt157.1 bt157.2 bt161.1 bt161.2 bt169.1 bt169.2.1 bt169.2.2 true)))) else (laws_FnStrokesWaitedOfAll.j0 k a0 a1 a2 a3 a4 a5 a6 a7 bt157.1 bt157.2 bt161.1 bt161.2 bt169.1 bt169.2.1 bt169.2.2 true))))))))))
theorem laws_FnStrokesWaitedOfAll.mono_l : ∀ k, (∀ y0 y1 y2 y3 y4 y5 y6 y7 y8 y9 y10 y11 y12 y13 y14 y15, LeO (laws_FnStrokesWaitedOfAll.j0 k y0 y1 y2 y3 y4 y5 y6 y7 y8 y9 y10 y11 y12 y13 y14 y15) (laws_FnStrokesWaitedOfAll.j0 (k + 1) y0 y1 y2 y3 y4 y5 y6 y7 y8 y9 y10 y11 y12 y13 y14 y15)) ∧ (∀ y0 y1 y2 y3 y4 y5 y6 y7 y8 y9, LeO (laws_FnStrokesWaitedOfAll.j3 k y0 y1 y2 y3 y4 y5 y6 y7 y8 y9) (laws_FnStrokesWaitedOfAll.j3 (k + 1) y0 y1 y2 y3 y4 y5 y6 y7 y8 y9)) ∧ (∀ y0 y1 y2 y3 y4, LeO (laws_FnStrokesWaitedOfAll.j5 k y0 y1 y2 y3 y4) (laws_FnStrokesWaitedOfAll.j5 (k + 1) y0 y1 y2 y3 y4)) ∧ (∀ y0 y1 y2 y3 y4, LeO (laws_FnStrokesWaitedOfAll.l2 k y0 y1 y2 y3 y4) (laws_FnStrokesWaitedOfAll.l2 (k + 1) y0 y1 y2 y3 y4)) ∧ (∀ y0 y1 y2 y3 y4 y5 y6 y7 y8 y9 y10 y11, LeO (laws_FnStrokesWaitedOfAll.l1 k y0 y1 y2 y3 y4 y5 y6 y7 y8 y9 y10 y11) (laws_FnStrokesWaitedOfAll.l1 (k + 1) y0 y1 y2 y3 y4 y5 y6 y7 y8 y9 y10 y11)) ∧ (∀ y0 y1 y2 y3 y4 y5 y6 y7 y8 y9 y10 y11 y12 y13 y14, LeO (laws_FnStrokesWaitedOfAll.l0 k y0 y1 y2 y3 y4 y5 y6 y7 y8 y9 y10 y11 y12 y13 y14) (laws_FnStrokesWaitedOfAll.l0 (k + 1) y0 y1 y2 y3 y4 y5 y6 y7 y8 y9 y10 y11 y12 y13 y14)) ∧ (∀ y0 y1 y2 y3 y4 y5 y6 y7 y8 y9 y10 y11 y12 y13 y14 y15, LeO (laws_FnStrokesWaitedOfAll.j2 k y0 y1 y2 y3 y4 y5 y6 y7 y8 y9 y10 y11 y12 y13 y14 y15) (laws_FnStrokesWaitedOfAll.j2 (k + 1) y0 y1 y2 y3 y4 y5 y6 y7 y8 y9 y10 y11 y12 y13 y14 y15))
  | 0 => ⟨fun _ _ _ _ _ _ _ _ _ _ _ _ _ _ _ _ r h => by simp [laws_FnStrokesWaitedOfAll.j0] at h, fun _ _ _ _ _ _ _ _ _ _ r h => by simp [laws_FnStrokesWaitedOfAll.j3] at h, fun _ _ _ _ _ r h => by simp [laws_FnStrokesWaitedOfAll.j5] at h, fun _ _ _ _ _ r h => by simp [laws_FnStrokesWaitedOfAll.l2] at h, fun _ _ _ _ _ _ _ _ _ _ _ _ r h => by simp [laws_FnStrokesWaitedOfAll.l1] at h, fun _ _ _ _ _ _ _ _ _ _ _ _ _ _ _ r h => by simp [laws_FnStrokesWaitedOfAll.l0] at h, fun _ _ _ _ _ _ _ _ _ _ _ _ _ _ _ _ r h => by simp [laws_FnStrokesWaitedOfAll.j2] at h⟩
  | k + 1 => by
    obtain ⟨ih0, ih1, ih2, ih3, ih4, ih5, ih6⟩ := laws_FnStrokesWaitedOfAll.mono_l k
    refine ⟨?_, ?_, ?_, ?_, ?_, ?_, ?_⟩
    · intro y0 y1 y2 y3 y4 y5 y6 y7 y8 y9 y10 y11 y12 y13 y14 y15
      unfold laws_FnStrokesWaitedOfAll.j0
      repeat' first
      | (with_reducible exact ih0 _ _ _ _ _ _ _ _ _ _ _ _ _ _ _ _)
      | (with_reducible exact ih1 _ _ _ _ _ _ _ _ _ _)
      | (with_reducible exact ih2 _ _ _ _ _)
      | (with_reducible exact ih3 _ _ _ _ _)
      | (with_reducible exact ih4 _ _ _ _ _ _ _ _ _ _ _ _)
      | (with_reducible exact ih5 _ _ _ _ _ _ _ _ _ _ _ _ _ _ _)
      | (with_reducible exact ih6 _ _ _ _ _ _ _ _ _ _ _ _ _ _ _ _)
      | (with_reducible exact impl_HeardFrom.mono _ _ _ _)
      | (with_reducible exact impl_MostInHalves.mono _ _ _)
      | (with_reducible exact impl_StrokesBetween.mono _ _ _ _)
      | (with_reducible exact impl_WaitForStrokes.mono _ _ _ _)
      | (with_reducible exact laws_kSame.mono _ _ _)
      | (with_reducible exact spec_HeardFrom.mono _ _ _ _)
      | (with_reducible exact spec_MostInHalves.mono _ _ _)
      | (with_reducible exact spec_WaitForStrokes.mono _ _ _ _)
      | (with_reducible exact LeO.refl _)
      | (with_reducible exact LeO.none _)
      | (with_reducible refine LeO.ite ?_ ?_)
      | (with_reducible refine LeO.bind ?_ (fun _ => ?_))
      | exact ih0 _ _ _ _ _ _ _ _ _ _ _ _ _ _ _ _
      | exact ih1 _ _ _ _ _ _ _ _ _ _
      | exact ih2 _ _ _ _ _
      | exact ih3 _ _ _ _ _
      | exact ih4 _ _ _ _ _ _ _ _ _ _ _ _
      | exact ih5 _ _ _ _ _ _ _ _ _ _ _ _ _ _ _
      | exact ih6 _ _ _ _ _ _ _ _ _ _ _ _ _ _ _ _
      | exact impl_HeardFrom.mono _ _ _ _
      | exact impl_MostInHalves.mono _ _ _
      | exact impl_StrokesBetween.mono _ _ _ _
      | exact impl_WaitForStrokes.mono _ _ _ _
      | exact laws_kSame.mono _ _ _
      | exact spec_HeardFrom.mono _ _ _ _
      | exact spec_MostInHalves.mono _ _ _
      | exact spec_WaitForStrokes.mono _ _ _ _
      | exact LeO.none _
      | refine LeO.ite ?_ ?_
      | refine LeO.bind ?_ (fun _ => ?_)
    · intro y0 y1 y2 y3 y4 y5 y6 y7 y8 y9
      unfold laws_FnStrokesWaitedOfAll.j3
      repeat' first
      | (with_reducible exact ih0 _ _ _ _ _ _ _ _ _ _ _ _ _ _ _ _)
      | (with_reducible exact ih1 _ _ _ _ _ _ _ _ _ _)
      | (with_reducible exact ih2 _ _ _ _ _)
      | (with_reducible exact ih3 _ _ _ _ _)
      | (with_reducible exact ih4 _ _ _ _ _ _ _ _ _ _ _ _)
      | (with_reducible exact ih5 _ _ _ _ _ _ _ _ _ _ _ _ _ _ _)
      | (with_reducible exact ih6 _ _ _ _ _ _ _ _ _ _ _ _ _ _ _ _)
      | (with_reducible exact impl_HeardFrom.mono _ _ _ _)
      | (with_reducible exact impl_MostInHalves.mono _ _ _)
      | (with_reducible exact impl_StrokesBetween.mono _ _ _ _)
      | (with_reducible exact impl_WaitForStrokes.mono _ _ _ _)
      | (with_reducible exact laws_kSame.mono _ _ _)
      | (with_reducible exact spec_HeardFrom.mono _ _ _ _)
      | (with_reducible exact spec_MostInHalves.mono _ _ _)
      | (with_reducible exact spec_WaitForStrokes.mono _ _ _ _)
      | (with_reducible exact LeO.refl _)
      | (with_reducible exact LeO.none _)
      | (with_reducible refine LeO.ite ?_ ?_)
      | (with_reducible refine LeO.bind ?_ (fun _ => ?_))
      | exact ih0 _ _ _ _ _ _ _ _ _ _ _ _ _ _ _ _
      | exact ih1 _ _ _ _ _ _ _ _ _ _
      | exact ih2 _ _ _ _ _
      | exact ih3 _ _ _ _ _
      | exact ih4 _ _ _ _ _ _ _ _ _ _ _ _
      | exact ih5 _ _ _ _ _ _ _ _ _ _ _ _ _ _ _
      | exact ih6 _ _ _ _ _ _ _ _ _ _ _ _ _ _ _ _
      | exact impl_HeardFrom.mono _ _ _ _
      | exact impl_MostInHalves.mono _ _ _
      | exact impl_StrokesBetween.mono _ _ _ _
      | exact impl_WaitForStrokes.mono _ _ _ _
      | exact laws_kSame.mono _ _ _
      | exact spec_HeardFrom.mono _ _ _ _
      | exact spec_MostInHalves.mono _ _ _
      | exact spec_WaitForStrokes.mono _ _ _ _
      | exact LeO.none _
      | refine LeO.ite ?_ ?_
      | refine LeO.bind ?_ (fun _ => ?_)
    · intro y0 y1 y2 y3 y4
      unfold laws_FnStrokesWaitedOfAll.j5
      repeat' first
      | (with_reducible exact ih0 _ _ _ _ _ _ _ _ _ _ _ _ _ _ _ _)
      | (with_reducible exact ih1 _ _ _ _ _ _ _ _ _ _)
      | (with_reducible exact ih2 _ _ _ _ _)
      | (with_reducible exact ih3 _ _ _ _ _)
      | (with_reducible exact ih4 _ _ _ _ _ _ _ _ _ _ _ _)
      | (with_reducible exact ih5 _ _ _ _ _ _ _ _ _ _ _ _ _ _ _)
      | (with_reducible exact ih6 _ _ _ _ _ _ _ _ _ _ _ _ _ _ _ _)
      | (with_reducible exact impl_HeardFrom.mono _ _ _ _)
      | (with_reducible exact impl_MostInHalves.mono _ _ _)
      | (with_reducible exact impl_StrokesBetween.mono _ _ _ _)
      | (with_reducible exact impl_WaitForStrokes.mono _ _ _ _)
      | (with_reducible exact laws_kSame.mono _ _ _)
      | (with_reducible exact spec_HeardFrom.mono _ _ _ _)
      | (with_reducible exact spec_MostInHalves.mono _ _ _)
      | (with_reducible exact spec_WaitForStrokes.mono _ _ _ _)
      | (with_reducible exact LeO.refl _)
      | (with_reducible exact LeO.none _)
      | (with_reducible refine LeO.ite ?_ ?_)
      | (with_reducible refine LeO.bind ?_ (fun _ => ?_))
      | exact ih0 _ _ _ _ _ _ _ _ _ _ _ _ _ _ _ _
      | exact ih1 _ _ _ _ _ _ _ _ _ _
      | exact ih2 _ _ _ _ _
      | exact ih3 _ _ _ _ _
      | exact ih4 _ _ _ _ _ _ _ _ _ _ _ _
      | exact ih5 _ _ _ _ _ _ _ _ _ _ _ _ _ _ _
      | exact ih6 _ _ _ _ _ _ _ _ _ _ _ _ _ _ _ _
      | exact impl_HeardFrom.mono _ _ _ _
      | exact impl_MostInHalves.mono _ _ _
      | exact impl_StrokesBetween.mono _ _ _ _
      | exact impl_WaitForStrokes.mono _ _ _ _
      | exact laws_kSame.mono _ _ _
      | exact spec_HeardFrom.mono _ _ _ _
      | exact spec_MostInHalves.mono _ _ _
      | exact spec_WaitForStrokes.mono _ _ _ _
      | exact LeO.none _
      | refine LeO.ite ?_ ?_
      | refine LeO.bind ?_ (fun _ => ?_)
    · intro y0 y1 y2 y3 y4
      unfold laws_FnStrokesWaitedOfAll.l2
      repeat' first
      | (with_reducible exact ih0 _ _ _ _ _ _ _ _ _ _ _ _ _ _ _ _)
      | (with_reducible exact ih1 _ _ _ _ _ _ _ _ _ _)
      | (with_reducible exact ih2 _ _ _ _ _)
      | (with_reducible exact ih3 _ _ _ _ _)
      | (with_reducible exact ih4 _ _ _ _ _ _ _ _ _ _ _ _)
      | (with_reducible exact ih5 _ _ _ _ _ _ _ _ _ _ _ _ _ _ _)
      | (with_reducible exact ih6 _ _ _ _ _ _ _ _ _ _ _ _ _ _ _ _)
      | (with_reducible exact impl_HeardFrom.mono _ _ _ _)
      | (with_reducible exact impl_MostInHalves.mono _ _ _)
      | (with_reducible exact impl_StrokesBetween.mono _ _ _ _)
      | (with_reducible exact impl_WaitForStrokes.mono _ _ _ _)
      | (with_reducible exact laws_kSame.mono _ _ _)
      | (with_reducible exact spec_HeardFrom.mono _ _ _ _)
      | (with_reducible exact spec_MostInHalves.mono _ _ _)
      | (with_reducible exact spec_WaitForStrokes.mono _ _ _ _)
      | (with_reducible exact LeO.refl _)
      | (with_reducible exact LeO.none _)
      | (with_reducible refine LeO.ite ?_ ?_)
      | (with_reducible refine LeO.bind ?_ (fun _ => ?_))
      | exact ih0 _ _ _ _ _ _ _ _ _ _ _ _ _ _ _ _
      | exact ih1 _ _ _ _ _ _ _ _ _ _
      | exact ih2 _ _ _ _ _
      | exact ih3 _ _ _ _ _
      | exact ih4 _ _ _ _ _ _ _ _ _ _ _ _
      | exact ih5 _ _ _ _ _ _ _ _ _ _ _ _ _ _ _
      | exact ih6 _ _ _ _ _ _ _ _ _ _ _ _ _ _ _ _
      | exact impl_HeardFrom.mono _ _ _ _
      | exact impl_MostInHalves.mono _ _ _
      | exact impl_StrokesBetween.mono _ _ _ _
      | exact impl_WaitForStrokes.mono _ _ _ _
      | exact laws_kSame.mono _ _ _
      | exact spec_HeardFrom.mono _ _ _ _
      | exact spec_MostInHalves.mono _ _ _
      | exact spec_WaitForStrokes.mono _ _ _ _
      | exact LeO.none _
      | refine LeO.ite ?_ ?_
      | refine LeO.bind ?_ (fun _ => ?_)
    · intro y0 y1 y2 y3 y4 y5 y6 y7 y8 y9 y10 y11
      unfold laws_FnStrokesWaitedOfAll.l1
      repeat' first
      | (with_reducible exact ih0 _ _ _ _ _ _ _ _ _ _ _ _ _ _ _ _)
      | (with_reducible exact ih1 _ _ _ _ _ _ _ _ _ _)
      | (with_reducible exact ih2 _ _ _ _ _)
      | (with_reducible exact ih3 _ _ _ _ _)
      | (with_reducible exact ih4 _ _ _ _ _ _ _ _ _ _ _ _)
      | (with_reducible exact ih5 _ _ _ _ _ _ _ _ _ _ _ _ _ _ _)
      | (with_reducible exact ih6 _ _ _ _ _ _ _ _ _ _ _ _ _ _ _ _)
      | (with_reducible exact impl_HeardFrom.mono _ _ _ _)
      | (with_reducible exact impl_MostInHalves.mono _ _ _)
      | (with_reducible exact impl_StrokesBetween.mono _ _ _ _)
      | (with_reducible exact impl_WaitForStrokes.mono _ _ _ _)
      | (with_reducible exact laws_kSame.mono _ _ _)
      | (with_reducible exact spec_HeardFrom.mono _ _ _ _)
      | (with_reducible exact spec_MostInHalves.mono _ _ _)
      | (with_reducible exact spec_WaitForStrokes.mono _ _ _ _)
      | (with_reducible exact LeO.refl _)
      | (with_reducible exact LeO.none _)
      | (with_reducible refine LeO.ite ?_ ?_)
      | (with_reducible refine LeO.bind ?_ (fun _ => ?_))
      | exact ih0 _ _ _ _ _ _ _ _ _ _ _ _ _ _ _ _
      | exact ih1 _ _ _ _ _ _ _ _ _ _
      | exact ih2 _ _ _ _ _
      | exact ih3 _ _ _ _ _
      | exact ih4 _ _ _ _ _ _ _ _ _ _ _ _
      | exact ih5 _ _ _ _ _ _ _ _ _ _ _ _ _ _ _
      | exact ih6 _ _ _ _ _ _ _ _ _ _ _ _ _ _ _ _
      | exact impl_HeardFrom.mono _ _ _ _
      | exact impl_MostInHalves.mono _ _ _
      | exact impl_StrokesBetween.mono _ _ _ _
      | exact impl_WaitForStrokes.mono _ _ _ _
      | exact laws_kSame.mono _ _ _
      | exact spec_HeardFrom.mono _ _ _ _
      | exact spec_MostInHalves.mono _ _ _
      | exact spec_WaitForStrokes.mono _ _ _ _
      | exact LeO.none _
      | refine LeO.ite ?_ ?_
      | refine LeO.bind ?_ (fun _ => ?_)
    · intro y0 y1 y2 y3 y4 y5 y6 y7 y8 y9 y10 y11 y12 y13 y14
      unfold laws_FnStrokesWaitedOfAll.l0
      repeat' first
      | (with_reducible exact ih0 _ _ _ _ _ _ _ _ _ _ _ _ _ _ _ _)
      | (with_reducible exact ih1 _ _ _ _ _ _ _ _ _ _)
      | (with_reducible exact ih2 _ _ _ _ _)
      | (with_reducible exact ih3 _ _ _ _ _)
      | (with_reducible exact ih4 _ _ _ _ _ _ _ _ _ _ _ _)
      | (with_reducible exact ih5 _ _ _ _ _ _ _ _ _ _ _ _ _ _ _)
      | (with_reducible exact ih6 _ _ _ _ _ _ _ _ _ _ _ _ _ _ _ _)
      | (with_reducible exact impl_HeardFrom.mono _ _ _ _)
      | (with_reducible exact impl_MostInHalves.mono _ _ _)
      | (with_reducible exact impl_StrokesBetween.mono _ _ _ _)
      | (with_reducible exact impl_WaitForStrokes.mono _ _ _ _)
      | (with_reducible exact laws_kSame.mono _ _ _)
      | (with_reducible exact spec_HeardFrom.mono _ _ _ _)
      | (with_reducible exact spec_MostInHalves.mono _ _ _)
      | (with_reducible exact spec_WaitForStrokes.mono _ _ _ _)
      | (with_reducible exact LeO.refl _)
      | (with_reducible exact LeO.none _)
      | (with_reducible refine LeO.ite ?_ ?_)
      | (with_reducible refine LeO.bind ?_ (fun _ => ?_))
      | exact ih0 _ _ _ _ _ _ _ _ _ _ _ _ _ _ _ _
      | exact ih1 _ _ _ _ _ _ _ _ _ _
      | exact ih2 _ _ _ _ _
      | exact ih3 _ _ _ _ _
      | exact ih4 _ _ _ _ _ _ _ _ _ _ _ _
      | exact ih5 _ _ _ _ _ _ _ _ _ _ _ _ _ _ _
      | exact ih6 _ _ _ _ _ _ _ _ _ _ _ _ _ _ _ _
      | exact impl_HeardFrom.mono _ _ _ _
      | exact impl_MostInHalves.mono _ _ _
      | exact impl_StrokesBetween.mono _ _ _ _
      | exact impl_WaitForStrokes.mono _ _ _ _
      | exact laws_kSame.mono _ _ _
      | exact spec_HeardFrom.mono _ _ _ _
      | exact spec_MostInHalves.mono _ _ _
      | exact spec_WaitForStrokes.mono _ _ _ _
      | exact LeO.none _
      | refine LeO.ite ?_ ?_
      | refine LeO.bind ?_ (fun _ => ?_)
    · intro y0 y1 y2 y3 y4 y5 y6 y7 y8 y9 y10 y11 y12 y13 y14 y15
      unfold laws_FnStrokesWaitedOfAll.j2
      repeat' first
      | (with_reducible exact ih0 _ _ _ _ _ _ _ _ _ _ _ _ _ _ _ _)
      | (with_reducible exact ih1 _ _ _ _ _ _ _ _ _ _)
      | (with_reducible exact ih2 _ _ _ _ _)
      | (with_reducible exact ih3 _ _ _ _ _)
      | (with_reducible exact ih4 _ _ _ _ _ _ _ _ _ _ _ _)
      | (with_reducible exact ih5 _ _ _ _ _ _ _ _ _ _ _ _ _ _ _)
      | (with_reducible exact ih6 _ _ _ _ _ _ _ _ _ _ _ _ _ _ _ _)
      | (with_reducible exact impl_HeardFrom.mono _ _ _ _)
      | (with_reducible exact impl_MostInHalves.mono _ _ _)
      | (with_reducible exact impl_StrokesBetween.mono _ _ _ _)
      | (with_reducible exact impl_WaitForStrokes.mono _ _ _ _)
      | (with_reducible exact laws_kSame.mono _ _ _)
      | (with_reducible exact spec_HeardFrom.mono _ _ _ _)
      | (with_reducible exact spec_MostInHalves.mono _ _ _)
      | (with_reducible exact spec_WaitForStrokes.mono _ _ _ _)
      | (with_reducible exact LeO.refl _)
      | (with_reducible exact LeO.none _)
      | (with_reducible refine LeO.ite ?_ ?_)
      | (with_reducible refine LeO.bind ?_ (fun _ => ?_))
      | exact ih0 _ _ _ _ _ _ _ _ _ _ _ _ _ _ _ _
      | exact ih1 _ _ _ _ _ _ _ _ _ _
      | exact ih2 _ _ _ _ _
      | exact ih3 _ _ _ _ _
      | exact ih4 _ _ _ _ _ _ _ _ _ _ _ _
      | exact ih5 _ _ _ _ _ _ _ _ _ _ _ _ _ _ _
      | exact ih6 _ _ _ _ _ _ _ _ _ _ _ _ _ _ _ _
      | exact impl_HeardFrom.mono _ _ _ _
      | exact impl_MostInHalves.mono _ _ _
      | exact impl_StrokesBetween.mono _ _ _ _
      | exact impl_WaitForStrokes.mono _ _ _ _
      | exact laws_kSame.mono _ _ _
      | exact spec_HeardFrom.mono _ _ _ _
      | exact spec_MostInHalves.mono _ _ _
      | exact spec_WaitForStrokes.mono _ _ _ _
      | exact LeO.none _
      | refine LeO.ite ?_ ?_
      | refine LeO.bind ?_ (fun _ => ?_)
theorem laws_FnStrokesWaitedOfAll.mono : ∀ a0 a1 a2 a3 a4 a5 a6 a7 a8 a9 k, LeO (laws_FnStrokesWaitedOfAll.f k a0 a1 a2 a3 a4 a5 a6 a7 a8 a9) (laws_FnStrokesWaitedOfAll.f (k + 1) a0 a1 a2 a3 a4 a5 a6 a7 a8 a9) := by
  intro a0 a1 a2 a3 a4 a5 a6 a7 a8 a9 k
  obtain ⟨ih0, ih1, ih2, ih3, ih4, ih5, ih6⟩ := laws_FnStrokesWaitedOfAll.mono_l k
  unfold laws_FnStrokesWaitedOfAll.f
  repeat' first
      | (with_reducible exact ih0 _ _ _ _ _ _ _ _ _ _ _ _ _ _ _ _)
      | (with_reducible exact ih1 _ _ _ _ _ _ _ _ _ _)
      | (with_reducible exact ih2 _ _ _ _ _)
      | (with_reducible exact ih3 _ _ _ _ _)
      | (with_reducible exact ih4 _ _ _ _ _ _ _ _ _ _ _ _)
      | (with_reducible exact ih5 _ _ _ _ _ _ _ _ _ _ _ _ _ _ _)
      | (with_reducible exact ih6 _ _ _ _ _ _ _ _ _ _ _ _ _ _ _ _)
      | (with_reducible exact impl_HeardFrom.mono _ _ _ _)
      | (with_reducible exact impl_MostInHalves.mono _ _ _)
      | (with_reducible exact impl_StrokesBetween.mono _ _ _ _)
      | (with_reducible exact impl_WaitForStrokes.mono _ _ _ _)
      | (with_reducible exact laws_kSame.mono _ _ _)
      | (with_reducible exact spec_HeardFrom.mono _ _ _ _)
      | (with_reducible exact spec_MostInHalves.mono _ _ _)
      | (with_reducible exact spec_WaitForStrokes.mono _ _ _ _)
      | (with_reducible exact LeO.refl _)
      | (with_reducible exact LeO.none _)
      | (with_reducible refine LeO.ite ?_ ?_)
      | (with_reducible refine LeO.bind ?_ (fun _ => ?_))
      | exact ih0 _ _ _ _ _ _ _ _ _ _ _ _ _ _ _ _
      | exact ih1 _ _ _ _ _ _ _ _ _ _
      | exact ih2 _ _ _ _ _
      | exact ih3 _ _ _ _ _
      | exact ih4 _ _ _ _ _ _ _ _ _ _ _ _
      | exact ih5 _ _ _ _ _ _ _ _ _ _ _ _ _ _ _
      | exact ih6 _ _ _ _ _ _ _ _ _ _ _ _ _ _ _ _
      | exact impl_HeardFrom.mono _ _ _ _
      | exact impl_MostInHalves.mono _ _ _
      | exact impl_StrokesBetween.mono _ _ _ _
      | exact impl_WaitForStrokes.mono _ _ _ _
      | exact laws_kSame.mono _ _ _
      | exact spec_HeardFrom.mono _ _ _ _
      | exact spec_MostInHalves.mono _ _ _
      | exact spec_WaitForStrokes.mono _ _ _ _
      | exact LeO.none _
      | refine LeO.ite ?_ ?_
      | refine LeO.bind ?_ (fun _ => ?_)
set_option maxHeartbeats 8000000 in
set_option maxRecDepth 100000 in
theorem laws_FnStrokesWaitedOfAll.calls (k : Nat) (a0 : Int) (a1 : Int) (a2 : Int) (a3 : Int) (a4 : Int) (a5 : Int) (a6 : Int) (a7 : Int) (a8 : Int) (a9 : Int) (w : World) (h : laws_FnStrokesWaitedOfAll.f k a0 a1 a2 a3 a4 a5 a6 a7 a8 a9 = some true) :
    Calls Try.prog 11 #[.int .i64 a0, .int .i64 a1, .int .i64 a2, .int .i64 a3, .int .i64 a4, .int .i64 a5, .int .i64 a6, .int .i64 a7, .int .i64 a8, .int .i64 a9] w fun e w' => e = .returned (.bool true) ∧ Below w.heap.size w w' := by
  have HB := Aside0.mk (Below.refl w.heap.size w)
  have H : ((impl_WaitForStrokes.f k a0 a1 a2).bind fun bt157 => ((spec_WaitForStrokes.f k a0 a1 a2).bind fun bt159 => ((impl_HeardFrom.f k a3 a4 a5).bind fun bt161 => ((spec_HeardFrom.f k a3 a4 a5).bind fun bt165 => ((impl_MostInHalves.f k a6 a7).bind fun bt169 => ((spec_MostInHalves.f k a6 a7).bind fun bt172 => ((impl_StrokesAt.f a8 a9).bind fun bt175 => ((spec_StrokesAt.f a8 a9).bind fun bt177 => (if (bt157.2 != bt159.2) = true then (laws_FnStrokesWaitedOfAll.j0 k a0 a1 a2 a3 a4 a5 a6 a7 bt157.1 bt157.2 bt161.1 bt161.2 bt169.1 bt169.2.1 bt169.2.2 true) else (if bt157.1 = bt159.1 then (if (bt161.2 != bt165.2) = true then (laws_FnStrokesWaitedOfAll.j0 k a0 a1 a2 a3 a4 a5 a6 a7 bt157.1 bt157.2 bt161.1 bt161.2 bt169.1 bt169.2.1 bt169.2.2 true) else ((laws_kSame.f k bt161.1 bt165.1).bind fun t179 => (if t179 = true then (if (bt169.2.2 != bt172.2.2) = true then (laws_FnStrokesWaitedOfAll.j0 k a0 a1 a2 a3 a4 a5 a6 a7 bt157.1 bt157.2 bt161.1 bt161.2 bt169.1 bt169.2.1 bt169.2.2 true) else (if bt169.1 = bt172.1 then (if bt169.2.1 = bt172.2.1 then (if (bt175.2 != bt177.2) = true then (laws_FnStrokesWaitedOfAll.j0 k a0 a1 a2 a3 a4 a5 a6 a7 bt157.1 bt157.2 bt161.1 bt161.2 bt169.1 bt169.2.1 bt169.2.2 true) else (laws_FnStrokesWaitedOfAll.j0 k a0 a1 a2 a3 a4 a5 a6 a7 bt157.1 bt157.2 bt161.1 bt161.2 bt169.1 bt169.2.1 bt169.2.2 (bt175.1 != bt177.1))) else (laws_FnStrokesWaitedOfAll.j0 k a0 a1 a2 a3 a4 a5 a6 a7 bt157.1 bt157.2 bt161.1 bt161.2 bt169.1 bt169.2.1 bt169.2.2 true)) else (laws_FnStrokesWaitedOfAll.j0 k a0 a1 a2 a3 a4 a5 a6 a7 bt157.1 bt157.2 bt161.1 bt161.2 bt169.1 bt169.2.1 bt169.2.2 true))) else (laws_FnStrokesWaitedOfAll.j0 k a0 a1 a2 a3 a4 a5 a6 a7 bt157.1 bt157.2 bt161.1 bt161.2 bt169.1 bt169.2.1 bt169.2.2 true)))) else (laws_FnStrokesWaitedOfAll.j0 k a0 a1 a2 a3 a4 a5 a6 a7 bt157.1 bt157.2 bt161.1 bt161.2 bt169.1 bt169.2.1 bt169.2.2 true))))))))))) = some true := h
  clear h
  replace H := Option.bind_eq_some_iff.mp H
  obtain ⟨⟨t157, t158⟩, A110, H⟩ := H
  replace H : ((spec_WaitForStrokes.f k a0 a1 a2).bind fun bt159 => ((impl_HeardFrom.f k a3 a4 a5).bind fun bt161 => ((spec_HeardFrom.f k a3 a4 a5).bind fun bt165 => ((impl_MostInHalves.f k a6 a7).bind fun bt169 => ((spec_MostInHalves.f k a6 a7).bind fun bt172 => ((impl_StrokesAt.f a8 a9).bind fun bt175 => ((spec_StrokesAt.f a8 a9).bind fun bt177 => (if (t158 != bt159.2) = true then (laws_FnStrokesWaitedOfAll.j0 k a0 a1 a2 a3 a4 a5 a6 a7 t157 t158 bt161.1 bt161.2 bt169.1 bt169.2.1 bt169.2.2 true) else (if t157 = bt159.1 then (if (bt161.2 != bt165.2) = true then (laws_FnStrokesWaitedOfAll.j0 k a0 a1 a2 a3 a4 a5 a6 a7 t157 t158 bt161.1 bt161.2 bt169.1 bt169.2.1 bt169.2.2 true) else ((laws_kSame.f k bt161.1 bt165.1).bind fun t179 => (if t179 = true then (if (bt169.2.2 != bt172.2.2) = true then (laws_FnStrokesWaitedOfAll.j0 k a0 a1 a2 a3 a4 a5 a6 a7 t157 t158 bt161.1 bt161.2 bt169.1 bt169.2.1 bt169.2.2 true) else (if bt169.1 = bt172.1 then (if bt169.2.1 = bt172.2.1 then (if (bt175.2 != bt177.2) = true then (laws_FnStrokesWaitedOfAll.j0 k a0 a1 a2 a3 a4 a5 a6 a7 t157 t158 bt161.1 bt161.2 bt169.1 bt169.2.1 bt169.2.2 true) else (laws_FnStrokesWaitedOfAll.j0 k a0 a1 a2 a3 a4 a5 a6 a7 t157 t158 bt161.1 bt161.2 bt169.1 bt169.2.1 bt169.2.2 (bt175.1 != bt177.1))) else (laws_FnStrokesWaitedOfAll.j0 k a0 a1 a2 a3 a4 a5 a6 a7 t157 t158 bt161.1 bt161.2 bt169.1 bt169.2.1 bt169.2.2 true)) else (laws_FnStrokesWaitedOfAll.j0 k a0 a1 a2 a3 a4 a5 a6 a7 t157 t158 bt161.1 bt161.2 bt169.1 bt169.2.1 bt169.2.2 true))) else (laws_FnStrokesWaitedOfAll.j0 k a0 a1 a2 a3 a4 a5 a6 a7 t157 t158 bt161.1 bt161.2 bt169.1 bt169.2.1 bt169.2.2 true)))) else (laws_FnStrokesWaitedOfAll.j0 k a0 a1 a2 a3 a4 a5 a6 a7 t157 t158 bt161.1 bt161.2 bt169.1 bt169.2.1 bt169.2.2 true)))))))))) = some true := H
  have A11 := Aside0.mk A110
  clear A110
  replace H := Option.bind_eq_some_iff.mp H
  obtain ⟨⟨t159, t160⟩, A120, H⟩ := H
  replace H : ((impl_HeardFrom.f k a3 a4 a5).bind fun bt161 => ((spec_HeardFrom.f k a3 a4 a5).bind fun bt165 => ((impl_MostInHalves.f k a6 a7).bind fun bt169 => ((spec_MostInHalves.f k a6 a7).bind fun bt172 => ((impl_StrokesAt.f a8 a9).bind fun bt175 => ((spec_StrokesAt.f a8 a9).bind fun bt177 => (if (t158 != t160) = true then (laws_FnStrokesWaitedOfAll.j0 k a0 a1 a2 a3 a4 a5 a6 a7 t157 t158 bt161.1 bt161.2 bt169.1 bt169.2.1 bt169.2.2 true) else (if t157 = t159 then (if (bt161.2 != bt165.2) = true then (laws_FnStrokesWaitedOfAll.j0 k a0 a1 a2 a3 a4 a5 a6 a7 t157 t158 bt161.1 bt161.2 bt169.1 bt169.2.1 bt169.2.2 true) else ((laws_kSame.f k bt161.1 bt165.1).bind fun t179 => (if t179 = true then (if (bt169.2.2 != bt172.2.2) = true then (laws_FnStrokesWaitedOfAll.j0 k a0 a1 a2 a3 a4 a5 a6 a7 t157 t158 bt161.1 bt161.2 bt169.1 bt169.2.1 bt169.2.2 true) else (if bt169.1 = bt172.1 then (if bt169.2.1 = bt172.2.1 then (if (bt175.2 != bt177.2) = true then (laws_FnStrokesWaitedOfAll.j0 k a0 a1 a2 a3 a4 a5 a6 a7 t157 t158 bt161.1 bt161.2 bt169.1 bt169.2.1 bt169.2.2 true) else (laws_FnStrokesWaitedOfAll.j0 k a0 a1 a2 a3 a4 a5 a6 a7 t157 t158 bt161.1 bt161.2 bt169.1 bt169.2.1 bt169.2.2 (bt175.1 != bt177.1))) else (laws_FnStrokesWaitedOfAll.j0 k a0 a1 a2 a3 a4 a5 a6 a7 t157 t158 bt161.1 bt161.2 bt169.1 bt169.2.1 bt169.2.2 true)) else (laws_FnStrokesWaitedOfAll.j0 k a0 a1 a2 a3 a4 a5 a6 a7 t157 t158 bt161.1 bt161.2 bt169.1 bt169.2.1 bt169.2.2 true))) else (laws_FnStrokesWaitedOfAll.j0 k a0 a1 a2 a3 a4 a5 a6 a7 t157 t158 bt161.1 bt161.2 bt169.1 bt169.2.1 bt169.2.2 true)))) else (laws_FnStrokesWaitedOfAll.j0 k a0 a1 a2 a3 a4 a5 a6 a7 t157 t158 bt161.1 bt161.2 bt169.1 bt169.2.1 bt169.2.2 true))))))))) = some true := H
  have A12 := Aside0.mk A120
  clear A120
  replace H := Option.bind_eq_some_iff.mp H
  obtain ⟨⟨t161, t162⟩, A130, H⟩ := H
  replace H : ((spec_HeardFrom.f k a3 a4 a5).bind fun bt165 => ((impl_MostInHalves.f k a6 a7).bind fun bt169 => ((spec_MostInHalves.f k a6 a7).bind fun bt172 => ((impl_StrokesAt.f a8 a9).bind fun bt175 => ((spec_StrokesAt.f a8 a9).bind fun bt177 => (if (t158 != t160) = true then (laws_FnStrokesWaitedOfAll.j0 k a0 a1 a2 a3 a4 a5 a6 a7 t157 t158 t161 t162 bt169.1 bt169.2.1 bt169.2.2 true) else (if t157 = t159 then (if (t162 != bt165.2) = true then (laws_FnStrokesWaitedOfAll.j0 k a0 a1 a2 a3 a4 a5 a6 a7 t157 t158 t161 t162 bt169.1 bt169.2.1 bt169.2.2 true) else ((laws_kSame.f k t161 bt165.1).bind fun t179 => (if t179 = true then (if (bt169.2.2 != bt172.2.2) = true then (laws_FnStrokesWaitedOfAll.j0 k a0 a1 a2 a3 a4 a5 a6 a7 t157 t158 t161 t162 bt169.1 bt169.2.1 bt169.2.2 true) else (if bt169.1 = bt172.1 then (if bt169.2.1 = bt172.2.1 then (if (bt175.2 != bt177.2) = true then (laws_FnStrokesWaitedOfAll.j0 k a0 a1 a2 a3 a4 a5 a6 a7 t157 t158 t161 t162 bt169.1 bt169.2.1 bt169.2.2 true) else (laws_FnStrokesWaitedOfAll.j0 k a0 a1 a2 a3 a4 a5 a6 a7 t157 t158 t161 t162 bt169.1 bt169.2.1 bt169.2.2 (bt175.1 != bt177.1))) else (laws_FnStrokesWaitedOfAll.j0 k a0 a1 a2 a3 a4 a5 a6 a7 t157 t158 t161 t162 bt169.1 bt169.2.1 bt169.2.2 true)) else (laws_FnStrokesWaitedOfAll.j0 k a0 a1 a2 a3 a4 a5 a6 a7 t157 t158 t161 t162 bt169.1 bt169.2.1 bt169.2.2 true))) else (laws_FnStrokesWaitedOfAll.j0 k a0 a1 a2 a3 a4 a5 a6 a7 t157 t158 t161 t162 bt169.1 bt169.2.1 bt169.2.2 true)))) else (laws_FnStrokesWaitedOfAll.j0 k a0 a1 a2 a3 a4 a5 a6 a7 t157 t158 t161 t162 bt169.1 bt169.2.1 bt169.2.2 true)))))))) = some true := H
  have A13 := Aside0.mk A130
  clear A130
  replace H := Option.bind_eq_some_iff.mp H
  obtain ⟨⟨t165, t166⟩, A140, H⟩ := H
  replace H : ((impl_MostInHalves.f k a6 a7).bind fun bt169 => ((spec_MostInHalves.f k a6 a7).bind fun bt172 => ((impl_StrokesAt.f a8 a9).bind fun bt175 => ((spec_StrokesAt.f a8 a9).bind fun bt177 => (if (t158 != t160) = true then (laws_FnStrokesWaitedOfAll.j0 k a0 a1 a2 a3 a4 a5 a6 a7 t157 t158 t161 t162 bt169.1 bt169.2.1 bt169.2.2 true) else (if t157 = t159 then (if (t162 != t166) = true then (laws_FnStrokesWaitedOfAll.j0 k a0 a1 a2 a3 a4 a5 a6 a7 t157 t158 t161 t162 bt169.1 bt169.2.1 bt169.2.2 true) else ((laws_kSame.f k t161 t165).bind fun t179 => (if t179 = true then (if (bt169.2.2 != bt172.2.2) = true then (laws_FnStrokesWaitedOfAll.j0 k a0 a1 a2 a3 a4 a5 a6 a7 t157 t158 t161 t162 bt169.1 bt169.2.1 bt169.2.2 true) else (if bt169.1 = bt172.1 then (if bt169.2.1 = bt172.2.1 then (if (bt175.2 != bt177.2) = true then (laws_FnStrokesWaitedOfAll.j0 k a0 a1 a2 a3 a4 a5 a6 a7 t157 t158 t161 t162 bt169.1 bt169.2.1 bt169.2.2 true) else (laws_FnStrokesWaitedOfAll.j0 k a0 a1 a2 a3 a4 a5 a6 a7 t157 t158 t161 t162 bt169.1 bt169.2.1 bt169.2.2 (bt175.1 != bt177.1))) else (laws_FnStrokesWaitedOfAll.j0 k a0 a1 a2 a3 a4 a5 a6 a7 t157 t158 t161 t162 bt169.1 bt169.2.1 bt169.2.2 true)) else (laws_FnStrokesWaitedOfAll.j0 k a0 a1 a2 a3 a4 a5 a6 a7 t157 t158 t161 t162 bt169.1 bt169.2.1 bt169.2.2 true))) else (laws_FnStrokesWaitedOfAll.j0 k a0 a1 a2 a3 a4 a5 a6 a7 t157 t158 t161 t162 bt169.1 bt169.2.1 bt169.2.2 true)))) else (laws_FnStrokesWaitedOfAll.j0 k a0 a1 a2 a3 a4 a5 a6 a7 t157 t158 t161 t162 bt169.1 bt169.2.1 bt169.2.2 true))))))) = some true := H
  have A14 := Aside0.mk A140
  clear A140
  replace H := Option.bind_eq_some_iff.mp H
  obtain ⟨⟨t169, t170, t171⟩, A150, H⟩ := H
  replace H : ((spec_MostInHalves.f k a6 a7).bind fun bt172 => ((impl_StrokesAt.f a8 a9).bind fun bt175 => ((spec_StrokesAt.f a8 a9).bind fun bt177 => (if (t158 != t160) = true then (laws_FnStrokesWaitedOfAll.j0 k a0 a1 a2 a3 a4 a5 a6 a7 t157 t158 t161 t162 t169 t170 t171 true) else (if t157 = t159 then (if (t162 != t166) = true then (laws_FnStrokesWaitedOfAll.j0 k a0 a1 a2 a3 a4 a5 a6 a7 t157 t158 t161 t162 t169 t170 t171 true) else ((laws_kSame.f k t161 t165).bind fun t179 => (if t179 = true then (if (t171 != bt172.2.2) = true then (laws_FnStrokesWaitedOfAll.j0 k a0 a1 a2 a3 a4 a5 a6 a7 t157 t158 t161 t162 t169 t170 t171 true) else (if t169 = bt172.1 then (if t170 = bt172.2.1 then (if (bt175.2 != bt177.2) = true then (laws_FnStrokesWaitedOfAll.j0 k a0 a1 a2 a3 a4 a5 a6 a7 t157 t158 t161 t162 t169 t170 t171 true) else (laws_FnStrokesWaitedOfAll.j0 k a0 a1 a2 a3 a4 a5 a6 a7 t157 t158 t161 t162 t169 t170 t171 (bt175.1 != bt177.1))) else (laws_FnStrokesWaitedOfAll.j0 k a0 a1 a2 a3 a4 a5 a6 a7 t157 t158 t161 t162 t169 t170 t171 true)) else (laws_FnStrokesWaitedOfAll.j0 k a0 a1 a2 a3 a4 a5 a6 a7 t157 t158 t161 t162 t169 t170 t171 true))) else (laws_FnStrokesWaitedOfAll.j0 k a0 a1 a2 a3 a4 a5 a6 a7 t157 t158 t161 t162 t169 t170 t171 true)))) else (laws_FnStrokesWaitedOfAll.j0 k a0 a1 a2 a3 a4 a5 a6 a7 t157 t158 t161 t162 t169 t170 t171 true)))))) = some true := H
  have A15 := Aside0.mk A150
  clear A150
  replace H := Option.bind_eq_some_iff.mp H
  obtain ⟨⟨t172, t173, t174⟩, A160, H⟩ := H
  replace H : ((impl_StrokesAt.f a8 a9).bind fun bt175 => ((spec_StrokesAt.f a8 a9).bind fun bt177 => (if (t158 != t160) = true then (laws_FnStrokesWaitedOfAll.j0 k a0 a1 a2 a3 a4 a5 a6 a7 t157 t158 t161 t162 t169 t170 t171 true) else (if t157 = t159 then (if (t162 != t166) = true then (laws_FnStrokesWaitedOfAll.j0 k a0 a1 a2 a3 a4 a5 a6 a7 t157 t158 t161 t162 t169 t170 t171 true) else ((laws_kSame.f k t161 t165).bind fun t179 => (if t179 = true then (if (t171 != t174) = true then (laws_FnStrokesWaitedOfAll.j0 k a0 a1 a2 a3 a4 a5 a6 a7 t157 t158 t161 t162 t169 t170 t171 true) else (if t169 = t172 then (if t170 = t173 then (if (bt175.2 != bt177.2) = true then (laws_FnStrokesWaitedOfAll.j0 k a0 a1 a2 a3 a4 a5 a6 a7 t157 t158 t161 t162 t169 t170 t171 true) else (laws_FnStrokesWaitedOfAll.j0 k a0 a1 a2 a3 a4 a5 a6 a7 t157 t158 t161 t162 t169 t170 t171 (bt175.1 != bt177.1))) else (laws_FnStrokesWaitedOfAll.j0 k a0 a1 a2 a3 a4 a5 a6 a7 t157 t158 t161 t162 t169 t170 t171 true)) else (laws_FnStrokesWaitedOfAll.j0 k a0 a1 a2 a3 a4 a5 a6 a7 t157 t158 t161 t162 t169 t170 t171 true))) else (laws_FnStrokesWaitedOfAll.j0 k a0 a1 a2 a3 a4 a5 a6 a7 t157 t158 t161 t162 t169 t170 t171 true)))) else (laws_FnStrokesWaitedOfAll.j0 k a0 a1 a2 a3 a4 a5 a6 a7 t157 t158 t161 t162 t169 t170 t171 true))))) = some true := H
  have A16 := Aside0.mk A160
  clear A160
  replace H := Option.bind_eq_some_iff.mp H
  obtain ⟨⟨t175, t176⟩, A170, H⟩ := H
  replace H : ((spec_StrokesAt.f a8 a9).bind fun bt177 => (if (t158 != t160) = true then (laws_FnStrokesWaitedOfAll.j0 k a0 a1 a2 a3 a4 a5 a6 a7 t157 t158 t161 t162 t169 t170 t171 true) else (if t157 = t159 then (if (t162 != t166) = true then (laws_FnStrokesWaitedOfAll.j0 k a0 a1 a2 a3 a4 a5 a6 a7 t157 t158 t161 t162 t169 t170 t171 true) else ((laws_kSame.f k t161 t165).bind fun t179 => (if t179 = true then (if (t171 != t174) = true then (laws_FnStrokesWaitedOfAll.j0 k a0 a1 a2 a3 a4 a5 a6 a7 t157 t158 t161 t162 t169 t170 t171 true) else (if t169 = t172 then (if t170 = t173 then (if (t176 != bt177.2) = true then (laws_FnStrokesWaitedOfAll.j0 k a0 a1 a2 a3 a4 a5 a6 a7 t157 t158 t161 t162 t169 t170 t171 true) else (laws_FnStrokesWaitedOfAll.j0 k a0 a1 a2 a3 a4 a5 a6 a7 t157 t158 t161 t162 t169 t170 t171 (t175 != bt177.1))) else (laws_FnStrokesWaitedOfAll.j0 k a0 a1 a2 a3 a4 a5 a6 a7 t157 t158 t161 t162 t169 t170 t171 true)) else (laws_FnStrokesWaitedOfAll.j0 k a0 a1 a2 a3 a4 a5 a6 a7 t157 t158 t161 t162 t169 t170 t171 true))) else (laws_FnStrokesWaitedOfAll.j0 k a0 a1 a2 a3 a4 a5 a6 a7 t157 t158 t161 t162 t169 t170 t171 true)))) else (laws_FnStrokesWaitedOfAll.j0 k a0 a1 a2 a3 a4 a5 a6 a7 t157 t158 t161 t162 t169 t170 t171 true)))) = some true := H
  have A17 := Aside0.mk A170
  clear A170
  replace H := Option.bind_eq_some_iff.mp H
  obtain ⟨⟨t177, t178⟩, A180, H⟩ := H
  replace H : (if (t158 != t160) = true then (laws_FnStrokesWaitedOfAll.j0 k a0 a1 a2 a3 a4 a5 a6 a7 t157 t158 t161 t162 t169 t170 t171 true) else (if t157 = t159 then (if (t162 != t166) = true then (laws_FnStrokesWaitedOfAll.j0 k a0 a1 a2 a3 a4 a5 a6 a7 t157 t158 t161 t162 t169 t170 t171 true) else ((laws_kSame.f k t161 t165).bind fun t179 => (if t179 = true then (if (t171 != t174) = true then (laws_FnStrokesWaitedOfAll.j0 k a0 a1 a2 a3 a4 a5 a6 a7 t157 t158 t161 t162 t169 t170 t171 true) else (if t169 = t172 then (if t170 = t173 then (if (t176 != t178) = true then (laws_FnStrokesWaitedOfAll.j0 k a0 a1 a2 a3 a4 a5 a6 a7 t157 t158 t161 t162 t169 t170 t171 true) else (laws_FnStrokesWaitedOfAll.j0 k a0 a1 a2 a3 a4 a5 a6 a7 t157 t158 t161 t162 t169 t170 t171 (t175 != t177))) else (laws_FnStrokesWaitedOfAll.j0 k a0 a1 a2 a3 a4 a5 a6 a7 t157 t158 t161 t162 t169 t170 t171 true)) else (laws_FnStrokesWaitedOfAll.j0 k a0 a1 a2 a3 a4 a5 a6 a7 t157 t158 t161 t162 t169 t170 t171 true))) else (laws_FnStrokesWaitedOfAll.j0 k a0 a1 a2 a3 a4 a5 a6 a7 t157 t158 t161 t162 t169 t170 t171 true)))) else (laws_FnStrokesWaitedOfAll.j0 k a0 a1 a2 a3 a4 a5 a6 a7 t157 t158 t161 t162 t169 t170 t171 true))) = some true := H
  have A18 := Aside0.mk A180
  clear A180
  have HC19 := Aside0.mk H
  clear H
  go_enter Try.func11, Try.ntmps11
  go_upto_region 9 with (first | ((with_reducible refine gate_callee (f := 43) rfl ?_); refine goesL_ (some 53) rfl rfl Try.func43 (by kernel_rfl) rfl #[.int .i64 a0, .int .i64 a1, .int .i64 a2] rfl (by (try simp only [List.map_toArray, List.map_cons, List.map_nil]); first | done | rfl | (simp only [List.length_drop, List.length_take]; rfl)) ?_; (with_reducible refine (impl_WaitForStrokes.calls k a0 a1 a2 t157 t158 _ A11.out).mono ?_); rintro e w' ⟨rfl, ⟨nd, rfl⟩⟩; refine ⟨_, rfl, ?_⟩) | ((with_reducible refine gate_callee (f := 44) rfl ?_); refine goesL_ (some 60) rfl rfl Try.func44 (by kernel_rfl) rfl #[.int .i64 a0, .int .i64 a1, .int .i64 a2] rfl (by (try simp only [List.map_toArray, List.map_cons, List.map_nil]); first | done | rfl | (simp only [List.length_drop, List.length_take]; rfl)) ?_; (with_reducible refine (spec_WaitForStrokes.calls k a0 a1 a2 t159 t160 _ A12.out).mono ?_); rintro e w' ⟨rfl, ⟨nd, rfl⟩⟩; refine ⟨_, rfl, ?_⟩) | ((with_reducible refine gate_callee (f := 45) rfl ?_); refine goesL_ (some 67) rfl rfl Try.func45 (by kernel_rfl) rfl #[.int .i64 a3, .int .i64 a4, .int .i64 a5] rfl (by (try simp only [List.map_toArray, List.map_cons, List.map_nil]); first | done | rfl | (simp only [List.length_drop, List.length_take]; rfl)) ?_; (with_reducible refine (impl_HeardFrom.calls k a3 a4 a5 t161 t162 _ A13.out).mono ?_); rintro e w20 ⟨v163, rfl, ho0, hb⟩; refine ⟨_, rfl, ?_⟩; have n0_ := Aside0.mk (Kd.R_lower ho0 (below_size (by repeat (first | (with_reducible first | exact HB.out | apply below_alloc | apply pw_below_drewN | apply below_drew1) | exact HB.out)))); have n1_ := Aside0.mk (below_step (by repeat (first | (with_reducible first | exact HB.out | apply below_alloc | apply pw_below_drewN | apply below_drew1) | exact HB.out)) hb); clear HB; have HO164 := n0_; have HB := n1_; clear n0_ n1_; (try clear hb); (try clear hb2); (try clear hk); (try clear hi); (try clear ho0)) | ((with_reducible refine gate_callee (f := 46) rfl ?_); refine goesL_ (some 74) rfl rfl Try.func46 (by kernel_rfl) rfl #[.int .i64 a3, .int .i64 a4, .int .i64 a5] rfl (by (try simp only [List.map_toArray, List.map_cons, List.map_nil]); first | done | rfl | (simp only [List.length_drop, List.length_take]; rfl)) ?_; (with_reducible refine (spec_HeardFrom.calls k a3 a4 a5 t165 t166 _ A14.out).mono ?_); rintro e w21 ⟨v167, rfl, ho0, hb⟩; refine ⟨_, rfl, ?_⟩; have n0_ := Aside0.mk (Kd.R_elder' (by (with_reducible repeat (first | apply Kd.R_alloc | apply Kd.R_drewN | apply Kd.R_drew)); exact HO164.out) (Kd.R_base ho0) hb); have n1_ := Aside0.mk (Kd.R_lower (Kd.R_new' ho0 (Kd.R_lt (by (with_reducible repeat (first | apply Kd.R_alloc | apply Kd.R_drewN | apply Kd.R_drew)); exact HO164.out))) (below_size (by repeat (first | (with_reducible first | exact HB.out | apply below_alloc | apply pw_below_drewN | apply below_drew1) | exact HB.out)))); have n2_ := Aside0.mk (below_step (by repeat (first | (with_reducible first | exact HB.out | apply below_alloc | apply pw_below_drewN | apply below_drew1) | exact HB.out)) hb); clear HO164; clear HB; have HO164 := n0_; have HO168 := n1_; have HB := n2_; clear n0_ n1_ n2_; (try clear hb); (try clear hb2); (try clear hk); (try clear hi); (try clear ho0)) | ((with_reducible refine gate_callee (f := 47) rfl ?_); refine goesL_ (some 80) rfl rfl Try.func47 (by kernel_rfl) rfl #[.int .i64 a6, .int .i64 a7] rfl (by (try simp only [List.map_toArray, List.map_cons, List.map_nil]); first | done | rfl | (simp only [List.length_drop, List.length_take]; rfl)) ?_; (with_reducible refine (impl_MostInHalves.calls k a6 a7 t169 t170 t171 _ A15.out).mono ?_); rintro e w' ⟨rfl, ⟨nd, rfl⟩⟩; refine ⟨_, rfl, ?_⟩) | ((with_reducible refine gate_callee (f := 48) rfl ?_); refine goesL_ (some 87) rfl rfl Try.func48 (by kernel_rfl) rfl #[.int .i64 a6, .int .i64 a7] rfl (by (try simp only [List.map_toArray, List.map_cons, List.map_nil]); first | done | rfl | (simp only [List.length_drop, List.length_take]; rfl)) ?_; (with_reducible refine (spec_MostInHalves.calls k a6 a7 t172 t173 t174 _ A16.out).mono ?_); rintro e w22 ⟨rfl, hb⟩; refine ⟨_, rfl, ?_⟩; have n0_ := Aside0.mk (Kd.R_below (by (with_reducible repeat (first | apply Kd.R_alloc | apply Kd.R_drewN | apply Kd.R_drew)); exact HO164.out) hb); have n1_ := Aside0.mk (Kd.R_below (by (with_reducible repeat (first | apply Kd.R_alloc | apply Kd.R_drewN | apply Kd.R_drew)); exact HO168.out) hb); have n2_ := Aside0.mk (below_step (by repeat (first | (with_reducible first | exact HB.out | apply below_alloc | apply pw_below_drewN | apply below_drew1) | exact HB.out)) hb); clear HO164; clear HO168; clear HB; have HO164 := n0_; have HO168 := n1_; have HB := n2_; clear n0_ n1_ n2_; (try clear hb); (try clear hb2); (try clear hk); (try clear hi)) | ((with_reducible refine gate_callee (f := 49) rfl ?_); refine goesL_ (some 94) rfl rfl Try.func49 (by kernel_rfl) rfl #[.int .i64 a8, .int .i64 a9] rfl (by (try simp only [List.map_toArray, List.map_cons, List.map_nil]); first | done | rfl | (simp only [List.length_drop, List.length_take]; rfl)) ?_; (with_reducible refine (impl_StrokesAt.calls a8 a9 t175 t176 _ A17.out).mono ?_); rintro e w' ⟨rfl, ⟨nd, rfl⟩⟩; refine ⟨_, rfl, ?_⟩) | ((with_reducible refine gate_callee (f := 50) rfl ?_); refine goesL_ (some 100) rfl rfl Try.func50 (by kernel_rfl) rfl #[.int .i64 a8, .int .i64 a9] rfl (by (try simp only [List.map_toArray, List.map_cons, List.map_nil]); first | done | rfl | (simp only [List.length_drop, List.length_take]; rfl)) ?_; (with_reducible refine (spec_StrokesAt.calls a8 a9 t177 t178 _ A18.out).mono ?_); rintro e w' ⟨rfl, ⟨nd, rfl⟩⟩; refine ⟨_, rfl, ?_⟩))
  (try simp only [Act.put, List.setIfInBounds_toArray, List.set_cons_zero, List.set_cons_succ])
  go_cut [146] (fun v146 wc => ∃ (kq : Nat) (x146_18 : Bool), v146 = .bool x146_18 ∧ Aside0 (laws_FnStrokesWaitedOfAll.j0 kq a0 a1 a2 a3 a4 a5 a6 a7 t157 t158 t161 t162 t169 t170 t171 x146_18 = some true) ∧ Aside0 (kq ≤ k) ∧ Aside0 (Kd.R (Kd.int .i64) 3 wc w.heap.size (fun _ => True) v163 t161) ∧ Aside0 (Below w.heap.size w wc))
  case first =>
   as_aux_lemma =>
    have H := HC19.out
    clear HC19
    by_cases c23 : (t158 != t160) = true
    · as_aux_lemma =>
      rw [if_pos c23] at H
      have c23b0 : (t158 != t160) = true := c23
      (try (have c23b1 : decide (t158 = t160) = false := by simpa using c23))
      (try (have c23b2 : (t158 == t160) = false := by simpa using c23))
      (try (have c23b3 : ¬ (t158 = t160) := by simpa using c23))
      clear c23
      (first | rw [c23b0] | (simp only [i64_w, i32_w]; rw [c23b0]) | skip)
      have H' := Aside0.mk H
      clear H
      go_wp2
      go_meet
      case rel => exact ⟨_, (true), (by first | rfl | (simp; done) | (simp [*]; done)), H', ⟨by first | omega | exact Nat.le_refl _⟩, ⟨by (with_reducible repeat (first | apply Kd.R_alloc | apply Kd.R_drewN | apply Kd.R_drew)); exact Kd.R_mono HO164.out (fun _ hk => trivial)⟩, ⟨by repeat (first | (with_reducible first | exact HB.out | apply below_alloc | apply pw_below_drewN | apply below_drew1) | exact HB.out)⟩⟩
    · as_aux_lemma =>
      rw [if_neg c23] at H
      have c23b0 : (t158 != t160) = false := by simpa using c23
      (try (have c23b1 : decide (t158 = t160) = true := by simpa using c23))
      (try (have c23b2 : (t158 == t160) = true := by simpa using c23))
      clear c23
      (first | rw [c23b0] | (simp only [i64_w, i32_w]; rw [c23b0]) | skip)
      by_cases c24 : t157 = t159
      · as_aux_lemma =>
        rw [if_pos c24] at H
        have c24b0 : (t157 == t159) = true := beq_iff_eq.mpr c24
        have c24b1 : (t157 != t159) = false := bne_eq_false_iff_eq.mpr c24
        clear c24
        by_cases c25 : (t162 != t166) = true
        · as_aux_lemma =>
          rw [if_pos c25] at H
          have c25b0 : (t162 != t166) = true := c25
          (try (have c25b1 : decide (t162 = t166) = false := by simpa using c25))
          (try (have c25b2 : (t162 == t166) = false := by simpa using c25))
          (try (have c25b3 : ¬ (t162 = t166) := by simpa using c25))
          clear c25
          have H' := Aside0.mk H
          clear H
          go_wp2
          go_meet
          case rel => exact ⟨_, (true), (by first | rfl | (simp; done) | (simp [*]; done)), H', ⟨by first | omega | exact Nat.le_refl _⟩, ⟨by (with_reducible repeat (first | apply Kd.R_alloc | apply Kd.R_drewN | apply Kd.R_drew)); exact Kd.R_mono HO164.out (fun _ hk => trivial)⟩, ⟨by repeat (first | (with_reducible first | exact HB.out | apply below_alloc | apply pw_below_drewN | apply below_drew1) | exact HB.out)⟩⟩
        · as_aux_lemma =>
          rw [if_neg c25] at H
          have c25b0 : (t162 != t166) = false := by simpa using c25
          (try (have c25b1 : decide (t162 = t166) = true := by simpa using c25))
          (try (have c25b2 : (t162 == t166) = true := by simpa using c25))
          clear c25
          replace H := Option.bind_eq_some_iff.mp H
          obtain ⟨t179, A260, H⟩ := H
          replace H : (if t179 = true then (if (t171 != t174) = true then (laws_FnStrokesWaitedOfAll.j0 k a0 a1 a2 a3 a4 a5 a6 a7 t157 t158 t161 t162 t169 t170 t171 true) else (if t169 = t172 then (if t170 = t173 then (if (t176 != t178) = true then (laws_FnStrokesWaitedOfAll.j0 k a0 a1 a2 a3 a4 a5 a6 a7 t157 t158 t161 t162 t169 t170 t171 true) else (laws_FnStrokesWaitedOfAll.j0 k a0 a1 a2 a3 a4 a5 a6 a7 t157 t158 t161 t162 t169 t170 t171 (t175 != t177))) else (laws_FnStrokesWaitedOfAll.j0 k a0 a1 a2 a3 a4 a5 a6 a7 t157 t158 t161 t162 t169 t170 t171 true)) else (laws_FnStrokesWaitedOfAll.j0 k a0 a1 a2 a3 a4 a5 a6 a7 t157 t158 t161 t162 t169 t170 t171 true))) else (laws_FnStrokesWaitedOfAll.j0 k a0 a1 a2 a3 a4 a5 a6 a7 t157 t158 t161 t162 t169 t170 t171 true)) = some true := H
          have A26 := Aside0.mk A260
          clear A260
          by_cases c27 : t179 = true
          · as_aux_lemma =>
            subst c27
            have H1 : (if (t171 != t174) = true then (laws_FnStrokesWaitedOfAll.j0 k a0 a1 a2 a3 a4 a5 a6 a7 t157 t158 t161 t162 t169 t170 t171 true) else (if t169 = t172 then (if t170 = t173 then (if (t176 != t178) = true then (laws_FnStrokesWaitedOfAll.j0 k a0 a1 a2 a3 a4 a5 a6 a7 t157 t158 t161 t162 t169 t170 t171 true) else (laws_FnStrokesWaitedOfAll.j0 k a0 a1 a2 a3 a4 a5 a6 a7 t157 t158 t161 t162 t169 t170 t171 (t175 != t177))) else (laws_FnStrokesWaitedOfAll.j0 k a0 a1 a2 a3 a4 a5 a6 a7 t157 t158 t161 t162 t169 t170 t171 true)) else (laws_FnStrokesWaitedOfAll.j0 k a0 a1 a2 a3 a4 a5 a6 a7 t157 t158 t161 t162 t169 t170 t171 true))) = some true := by rw [if_pos rfl] at H; exact H
            clear H
            have H := H1
            clear H1
            by_cases c28 : (t171 != t174) = true
            · as_aux_lemma =>
              rw [if_pos c28] at H
              have c28b0 : (t171 != t174) = true := c28
              (try (have c28b1 : decide (t171 = t174) = false := by simpa using c28))
              (try (have c28b2 : (t171 == t174) = false := by simpa using c28))
              (try (have c28b3 : ¬ (t171 = t174) := by simpa using c28))
              clear c28
              have H' := Aside0.mk H
              clear H
              obtain ⟨Ao29, co29, eo29⟩ := Kd.R_slice HO164.out
              subst eo29
              obtain ⟨Ao30, co30, eo30⟩ := Kd.R_slice HO168.out
              subst eo30
              go_wp2_with (first | (go_at_call 51; (with_reducible refine (laws_kSame.calls k _ _ t161 _ _ t165 true _ ?side1 ?side2 ?side3 ?side4 A26.out).mono ?_); (case side1 => repeat (first | exact (Kd.R_reads' HO164.out).2.2 | (with_reducible refine Kd.C_alloc ?_ _) | (with_reducible refine Kd.C_drewN ?_ _) | (with_reducible refine Kd.C_drew ?_))); (case side2 => exact (Kd.R_reads' HO164.out).2.1); (case side3 => repeat (first | exact (Kd.R_reads' HO168.out).2.2 | (with_reducible refine Kd.C_alloc ?_ _) | (with_reducible refine Kd.C_drewN ?_ _) | (with_reducible refine Kd.C_drew ?_))); (case side4 => exact (Kd.R_reads' HO168.out).2.1); rintro e w' ⟨rfl, ⟨nd, rfl⟩⟩))
              go_meet
              case rel => exact ⟨_, (true), (by first | rfl | (simp; done) | (simp [*]; done)), H', ⟨by first | omega | exact Nat.le_refl _⟩, ⟨by (with_reducible repeat (first | apply Kd.R_alloc | apply Kd.R_drewN | apply Kd.R_drew)); exact Kd.R_mono HO164.out (fun _ hk => trivial)⟩, ⟨by repeat (first | (with_reducible first | exact HB.out | apply below_alloc | apply pw_below_drewN | apply below_drew1) | exact HB.out)⟩⟩
            · as_aux_lemma =>
              rw [if_neg c28] at H
              have c28b0 : (t171 != t174) = false := by simpa using c28
              (try (have c28b1 : decide (t171 = t174) = true := by simpa using c28))
              (try (have c28b2 : (t171 == t174) = true := by simpa using c28))
              clear c28
              by_cases c31 : t169 = t172
              · as_aux_lemma =>
                rw [if_pos c31] at H
                have c31b0 : (t169 == t172) = true := beq_iff_eq.mpr c31
                have c31b1 : (t169 != t172) = false := bne_eq_false_iff_eq.mpr c31
                clear c31
                by_cases c32 : t170 = t173
                · as_aux_lemma =>
                  rw [if_pos c32] at H
                  have c32b0 : (t170 == t173) = true := beq_iff_eq.mpr c32
                  have c32b1 : (t170 != t173) = false := bne_eq_false_iff_eq.mpr c32
                  clear c32
                  by_cases c33 : (t176 != t178) = true
                  · as_aux_lemma =>
                    rw [if_pos c33] at H
                    have c33b0 : (t176 != t178) = true := c33
                    (try (have c33b1 : decide (t176 = t178) = false := by simpa using c33))
                    (try (have c33b2 : (t176 == t178) = false := by simpa using c33))
                    (try (have c33b3 : ¬ (t176 = t178) := by simpa using c33))
                    clear c33
                    have H' := Aside0.mk H
                    clear H
                    obtain ⟨Ao34, co34, eo34⟩ := Kd.R_slice HO164.out
                    subst eo34
                    obtain ⟨Ao35, co35, eo35⟩ := Kd.R_slice HO168.out
                    subst eo35
                    go_wp2_with (first | (go_at_call 51; (with_reducible refine (laws_kSame.calls k _ _ t161 _ _ t165 true _ ?side1 ?side2 ?side3 ?side4 A26.out).mono ?_); (case side1 => repeat (first | exact (Kd.R_reads' HO164.out).2.2 | (with_reducible refine Kd.C_alloc ?_ _) | (with_reducible refine Kd.C_drewN ?_ _) | (with_reducible refine Kd.C_drew ?_))); (case side2 => exact (Kd.R_reads' HO164.out).2.1); (case side3 => repeat (first | exact (Kd.R_reads' HO168.out).2.2 | (with_reducible refine Kd.C_alloc ?_ _) | (with_reducible refine Kd.C_drewN ?_ _) | (with_reducible refine Kd.C_drew ?_))); (case side4 => exact (Kd.R_reads' HO168.out).2.1); rintro e w' ⟨rfl, ⟨nd, rfl⟩⟩))
                    go_meet
                    case rel => exact ⟨_, (true), (by first | rfl | (simp; done) | (simp [*]; done)), H', ⟨by first | omega | exact Nat.le_refl _⟩, ⟨by (with_reducible repeat (first | apply Kd.R_alloc | apply Kd.R_drewN | apply Kd.R_drew)); exact Kd.R_mono HO164.out (fun _ hk => trivial)⟩, ⟨by repeat (first | (with_reducible first | exact HB.out | apply below_alloc | apply pw_below_drewN | apply below_drew1) | exact HB.out)⟩⟩
                  · as_aux_lemma =>
                    rw [if_neg c33] at H
                    have c33b0 : (t176 != t178) = false := by simpa using c33
                    (try (have c33b1 : decide (t176 = t178) = true := by simpa using c33))
                    (try (have c33b2 : (t176 == t178) = true := by simpa using c33))
                    clear c33
                    have H' := Aside0.mk H
                    clear H
                    obtain ⟨Ao36, co36, eo36⟩ := Kd.R_slice HO164.out
                    subst eo36
                    obtain ⟨Ao37, co37, eo37⟩ := Kd.R_slice HO168.out
                    subst eo37
                    go_wp2_with (first | (go_at_call 51; (with_reducible refine (laws_kSame.calls k _ _ t161 _ _ t165 true _ ?side1 ?side2 ?side3 ?side4 A26.out).mono ?_); (case side1 => repeat (first | exact (Kd.R_reads' HO164.out).2.2 | (with_reducible refine Kd.C_alloc ?_ _) | (with_reducible refine Kd.C_drewN ?_ _) | (with_reducible refine Kd.C_drew ?_))); (case side2 => exact (Kd.R_reads' HO164.out).2.1); (case side3 => repeat (first | exact (Kd.R_reads' HO168.out).2.2 | (with_reducible refine Kd.C_alloc ?_ _) | (with_reducible refine Kd.C_drewN ?_ _) | (with_reducible refine Kd.C_drew ?_))); (case side4 => exact (Kd.R_reads' HO168.out).2.1); rintro e w' ⟨rfl, ⟨nd, rfl⟩⟩))
                    go_meet
                    case rel => exact ⟨_, ((t175 != t177)), (by first | rfl | (simp; done) | (simp [*]; done)), H', ⟨by first | omega | exact Nat.le_refl _⟩, ⟨by (with_reducible repeat (first | apply Kd.R_alloc | apply Kd.R_drewN | apply Kd.R_drew)); exact Kd.R_mono HO164.out (fun _ hk => trivial)⟩, ⟨by repeat (first | (with_reducible first | exact HB.out | apply below_alloc | apply pw_below_drewN | apply below_drew1) | exact HB.out)⟩⟩
                · as_aux_lemma =>
                  rw [if_neg c32] at H
                  have c32b0 : (t170 == t173) = false := beq_eq_false_iff_ne.mpr c32
                  have c32b1 : (t170 != t173) = true := bne_iff_ne.mpr c32
                  have H' := Aside0.mk H
                  clear H
                  obtain ⟨Ao38, co38, eo38⟩ := Kd.R_slice HO164.out
                  subst eo38
                  obtain ⟨Ao39, co39, eo39⟩ := Kd.R_slice HO168.out
                  subst eo39
                  go_wp2_with (first | (go_at_call 51; (with_reducible refine (laws_kSame.calls k _ _ t161 _ _ t165 true _ ?side1 ?side2 ?side3 ?side4 A26.out).mono ?_); (case side1 => repeat (first | exact (Kd.R_reads' HO164.out).2.2 | (with_reducible refine Kd.C_alloc ?_ _) | (with_reducible refine Kd.C_drewN ?_ _) | (with_reducible refine Kd.C_drew ?_))); (case side2 => exact (Kd.R_reads' HO164.out).2.1); (case side3 => repeat (first | exact (Kd.R_reads' HO168.out).2.2 | (with_reducible refine Kd.C_alloc ?_ _) | (with_reducible refine Kd.C_drewN ?_ _) | (with_reducible refine Kd.C_drew ?_))); (case side4 => exact (Kd.R_reads' HO168.out).2.1); rintro e w' ⟨rfl, ⟨nd, rfl⟩⟩))
                  go_meet
                  case rel => exact ⟨_, (true), (by first | rfl | (simp; done) | (simp [*]; done)), H', ⟨by first | omega | exact Nat.le_refl _⟩, ⟨by (with_reducible repeat (first | apply Kd.R_alloc | apply Kd.R_drewN | apply Kd.R_drew)); exact Kd.R_mono HO164.out (fun _ hk => trivial)⟩, ⟨by repeat (first | (with_reducible first | exact HB.out | apply below_alloc | apply pw_below_drewN | apply below_drew1) | exact HB.out)⟩⟩
              · as_aux_lemma =>
                rw [if_neg c31] at H
                have c31b0 : (t169 == t172) = false := beq_eq_false_iff_ne.mpr c31
                have c31b1 : (t169 != t172) = true := bne_iff_ne.mpr c31
                have H' := Aside0.mk H
                clear H
                obtain ⟨Ao40, co40, eo40⟩ := Kd.R_slice HO164.out
                subst eo40
                obtain ⟨Ao41, co41, eo41⟩ := Kd.R_slice HO168.out
                subst eo41
                go_wp2_with (first | (go_at_call 51; (with_reducible refine (laws_kSame.calls k _ _ t161 _ _ t165 true _ ?side1 ?side2 ?side3 ?side4 A26.out).mono ?_); (case side1 => repeat (first | exact (Kd.R_reads' HO164.out).2.2 | (with_reducible refine Kd.C_alloc ?_ _) | (with_reducible refine Kd.C_drewN ?_ _) | (with_reducible refine Kd.C_drew ?_))); (case side2 => exact (Kd.R_reads' HO164.out).2.1); (case side3 => repeat (first | exact (Kd.R_reads' HO168.out).2.2 | (with_reducible refine Kd.C_alloc ?_ _) | (with_reducible refine Kd.C_drewN ?_ _) | (with_reducible refine Kd.C_drew ?_))); (case side4 => exact (Kd.R_reads' HO168.out).2.1); rintro e w' ⟨rfl, ⟨nd, rfl⟩⟩))
                go_meet
                case rel => exact ⟨_, (true), (by first | rfl | (simp; done) | (simp [*]; done)), H', ⟨by first | omega | exact Nat.le_refl _⟩, ⟨by (with_reducible repeat (first | apply Kd.R_alloc | apply Kd.R_drewN | apply Kd.R_drew)); exact Kd.R_mono HO164.out (fun _ hk => trivial)⟩, ⟨by repeat (first | (with_reducible first | exact HB.out | apply below_alloc | apply pw_below_drewN | apply below_drew1) | exact HB.out)⟩⟩
          · as_aux_lemma =>
            replace c27 := Bool.eq_false_iff.mpr c27
            subst c27
            have H1 : (laws_FnStrokesWaitedOfAll.j0 k a0 a1 a2 a3 a4 a5 a6 a7 t157 t158 t161 t162 t169 t170 t171 true) = some true := by rw [if_neg (show ¬ (false = true) by decide)] at H; exact H
            clear H
            have H := H1
            clear H1
            have H' := Aside0.mk H
            clear H
            obtain ⟨Ao42, co42, eo42⟩ := Kd.R_slice HO164.out
            subst eo42
            obtain ⟨Ao43, co43, eo43⟩ := Kd.R_slice HO168.out
            subst eo43
            go_wp2_with (first | (go_at_call 51; (with_reducible refine (laws_kSame.calls k _ _ t161 _ _ t165 false _ ?side1 ?side2 ?side3 ?side4 A26.out).mono ?_); (case side1 => repeat (first | exact (Kd.R_reads' HO164.out).2.2 | (with_reducible refine Kd.C_alloc ?_ _) | (with_reducible refine Kd.C_drewN ?_ _) | (with_reducible refine Kd.C_drew ?_))); (case side2 => exact (Kd.R_reads' HO164.out).2.1); (case side3 => repeat (first | exact (Kd.R_reads' HO168.out).2.2 | (with_reducible refine Kd.C_alloc ?_ _) | (with_reducible refine Kd.C_drewN ?_ _) | (with_reducible refine Kd.C_drew ?_))); (case side4 => exact (Kd.R_reads' HO168.out).2.1); rintro e w' ⟨rfl, ⟨nd, rfl⟩⟩))
            go_meet
            case rel => exact ⟨_, (true), (by first | rfl | (simp; done) | (simp [*]; done)), H', ⟨by first | omega | exact Nat.le_refl _⟩, ⟨by (with_reducible repeat (first | apply Kd.R_alloc | apply Kd.R_drewN | apply Kd.R_drew)); exact Kd.R_mono HO164.out (fun _ hk => trivial)⟩, ⟨by repeat (first | (with_reducible first | exact HB.out | apply below_alloc | apply pw_below_drewN | apply below_drew1) | exact HB.out)⟩⟩
      · as_aux_lemma =>
        rw [if_neg c24] at H
        have c24b0 : (t157 == t159) = false := beq_eq_false_iff_ne.mpr c24
        have c24b1 : (t157 != t159) = true := bne_iff_ne.mpr c24
        have H' := Aside0.mk H
        clear H
        go_wp2
        go_meet
        case rel => exact ⟨_, (true), (by first | rfl | (simp; done) | (simp [*]; done)), H', ⟨by first | omega | exact Nat.le_refl _⟩, ⟨by (with_reducible repeat (first | apply Kd.R_alloc | apply Kd.R_drewN | apply Kd.R_drew)); exact Kd.R_mono HO164.out (fun _ hk => trivial)⟩, ⟨by repeat (first | (with_reducible first | exact HB.out | apply below_alloc | apply pw_below_drewN | apply below_drew1) | exact HB.out)⟩⟩
  case rest =>
   as_aux_lemma =>
    clear HC19
    try clear c1
    try clear c2
    try clear p2
    try clear c3
    try clear c4
    try clear c5
    try clear c11
    try clear c23
    try clear c23b0
    try clear c23b1
    try clear c23b2
    try clear c24
    try clear c24b0
    try clear c24b1
    try clear c25
    try clear c25b0
    try clear c25b1
    try clear c25b2
    try clear c27
    try clear c28
    try clear c28b0
    try clear c28b1
    try clear c28b2
    try clear c31
    try clear c31b0
    try clear c31b1
    try clear c32
    try clear c32b0
    try clear c32b1
    try clear c33
    try clear c33b0
    try clear c33b1
    try clear c33b2
    try clear c43
    obtain ⟨kq, x146_18, rfl, HA, HJ18, HO_25, HB⟩ := hcut
    cases kq with
    | zero => exact absurd HA.out (by simp [laws_FnStrokesWaitedOfAll.j0])
    | succ kj18 =>
      have H := HA.out
      clear HA
      simp only [laws_FnStrokesWaitedOfAll.j0] at H
      by_cases c44 : x146_18 = true
      · as_aux_lemma =>
        subst c44
        have H1 : (some false) = some true := by rw [if_pos rfl] at H; exact H
        clear H
        have H := H1
        clear H1
        exact absurd H (by simp)
      · as_aux_lemma =>
        replace c44 := Bool.eq_false_iff.mpr c44
        subst c44
        have H1 : (if t158 = true then (laws_FnStrokesWaitedOfAll.l0 kj18 a0 a1 a2 a3 a4 a5 a6 a7 t157 t161 t162 t169 t170 t171 0) else (laws_FnStrokesWaitedOfAll.j3 kj18 a3 a4 a5 a6 a7 t161 t162 t169 t170 t171)) = some true := by rw [if_neg (show ¬ (false = true) by decide)] at H; exact H
        clear H
        have H := H1
        clear H1
        have HC45 := Aside0.mk H
        clear H
        go_upto_if 147 with (fail)
        go_cut [] (fun wc => ∃ (kq : Nat), Aside0 (laws_FnStrokesWaitedOfAll.j3 kq a3 a4 a5 a6 a7 t161 t162 t169 t170 t171 = some true) ∧ Aside0 (kq ≤ kj18) ∧ Aside0 (Kd.R (Kd.int .i64) 3 wc w.heap.size (fun _ => True) v163 t161) ∧ Aside0 (Below w.heap.size w wc))
        case first =>
         as_aux_lemma =>
          have H := HC45.out
          clear HC45
          by_cases c46 : t158 = true
          · as_aux_lemma =>
            subst c46
            have H1 : (laws_FnStrokesWaitedOfAll.l0 kj18 a0 a1 a2 a3 a4 a5 a6 a7 t157 t161 t162 t169 t170 t171 0) = some true := by rw [if_pos rfl] at H; exact H
            clear H
            have H := H1
            clear H1
            have H' := Aside0.mk H
            clear H
            go_wp2
            go_loopg [39] kj18 (fun kq v39 w' => ∃ (x39_2 : Int), v39 = .int .i64 x39_2 ∧ Aside0 (laws_FnStrokesWaitedOfAll.l0 kq a0 a1 a2 a3 a4 a5 a6 a7 t157 t161 t162 t169 t170 t171 x39_2 = some true) ∧ Aside0 (kq ≤ kj18) ∧ Aside0 (Kd.R (Kd.int .i64) 3 w' w.heap.size (fun _ => True) v163 t161) ∧ Aside0 (Below w.heap.size w w'))
            case atStart => exact ⟨(0), (by first | rfl | (simp; done) | (simp [*]; done)), H', ⟨Nat.le_refl _⟩, ⟨by (with_reducible repeat (first | apply Kd.R_alloc | apply Kd.R_drewN | apply Kd.R_drew)); exact HO_25.out⟩, ⟨by repeat (first | (with_reducible first | exact HB.out | apply below_alloc | apply pw_below_drewN | apply below_drew1) | exact HB.out)⟩⟩
            case round =>
             as_aux_lemma =>
              clear H'
              try clear c1
              try clear c2
              try clear p2
              try clear c3
              try clear c4
              try clear c5
              try clear c11
              try clear c23
              try clear c23b0
              try clear c23b1
              try clear c23b2
              try clear c24
              try clear c24b0
              try clear c24b1
              try clear c25
              try clear c25b0
              try clear c25b1
              try clear c25b2
              try clear c27
              try clear c28
              try clear c28b0
              try clear c28b1
              try clear c28b2
              try clear c31
              try clear c31b0
              try clear c31b1
              try clear c32
              try clear c32b0
              try clear c32b1
              try clear c33
              try clear c33b0
              try clear c33b1
              try clear c33b2
              try clear c43
              try clear c44
              try clear c45
              try clear c46
              try clear p2
              obtain ⟨x39_2, rfl, HA, HK2, HO_25, HB⟩ := hrel
              cases gk with
              | zero => exact absurd HA.out (by simp [laws_FnStrokesWaitedOfAll.l0])
              | succ k2 =>
                have H := HA.out
                clear HA
                simp only [laws_FnStrokesWaitedOfAll.l0] at H
                by_cases c47 : x39_2 ≤ t157
                · as_aux_lemma =>
                  rw [if_pos c47] at H
                  have c47b0 : decide (x39_2 ≤ t157) = true := decide_eq_true c47
                  clear c47
                  (first | rw [c47b0] | (simp only [i64_w, i32_w]; rw [c47b0]) | skip)
                  by_cases c48 : (wrap64 (2 * a0)) = 0
                  · as_aux_lemma =>
                    rw [if_pos c48] at H
                    exact absurd H (by simp)
                  · as_aux_lemma =>
                    rw [if_neg c48] at H
                    have c48b0 : ((wrap64 (2 * a0)) == 0) = false := beq_eq_false_iff_ne.mpr c48
                    have c48b1 : ((wrap64 (2 * a0)) != 0) = true := bne_iff_ne.mpr c48
                    replace H := Option.bind_eq_some_iff.mp H
                    obtain ⟨⟨t180, t181⟩, A490, H⟩ := H
                    replace H : (if t181 = true then (laws_FnStrokesWaitedOfAll.j2 k2 a0 a1 a2 a3 a4 a5 a6 a7 t157 t161 t162 t169 t170 t171 x39_2 ((t180 == a2) != (x39_2 == t157))) else (laws_FnStrokesWaitedOfAll.j2 k2 a0 a1 a2 a3 a4 a5 a6 a7 t157 t161 t162 t169 t170 t171 x39_2 true)) = some true := H
                    have A49 := Aside0.mk A490
                    clear A490
                    have HC50 := Aside0.mk H
                    clear H
                    go_upto_region 16 with (first | ((with_reducible refine gate_callee (f := 49) rfl ?_); refine goesL_ (some 161) rfl rfl Try.func49 (by kernel_rfl) rfl #[.int .i64 a0, .int .i64 (Int.tmod (wrap64 (a1 + x39_2)) (wrap64 (2 * a0)))] rfl (by (try simp only [List.map_toArray, List.map_cons, List.map_nil]); first | done | rfl | (simp only [List.length_drop, List.length_take]; rfl)) ?_; (with_reducible refine (impl_StrokesAt.calls a0 (Int.tmod (wrap64 (a1 + x39_2)) (wrap64 (2 * a0))) t180 t181 _ A49.out).mono ?_); rintro e w' ⟨rfl, ⟨nd, rfl⟩⟩; refine ⟨_, rfl, ?_⟩))
                    (try simp only [Act.put, List.setIfInBounds_toArray, List.set_cons_zero, List.set_cons_succ])
                    go_cut [174] (fun v174 wc => ∃ (kq : Nat) (x174_49 : Bool), v174 = .bool x174_49 ∧ Aside0 (laws_FnStrokesWaitedOfAll.j2 kq a0 a1 a2 a3 a4 a5 a6 a7 t157 t161 t162 t169 t170 t171 x39_2 x174_49 = some true) ∧ Aside0 (kq ≤ k2) ∧ Aside0 (Kd.R (Kd.int .i64) 3 wc w.heap.size (fun _ => True) v163 t161) ∧ Aside0 (Below w.heap.size w wc))
                    case first =>
                     as_aux_lemma =>
                      have H := HC50.out
                      clear HC50
                      by_cases c51 : t181 = true
                      · as_aux_lemma =>
                        subst c51
                        have H1 : (laws_FnStrokesWaitedOfAll.j2 k2 a0 a1 a2 a3 a4 a5 a6 a7 t157 t161 t162 t169 t170 t171 x39_2 ((t180 == a2) != (x39_2 == t157))) = some true := by rw [if_pos rfl] at H; exact H
                        clear H
                        have H := H1
                        clear H1
                        have H' := Aside0.mk H
                        clear H
                        go_wp2
                        go_meet
                        case rel => exact ⟨_, (((t180 == a2) != (x39_2 == t157))), (by first | rfl | (simp; done) | (simp [*]; done)), H', ⟨by have := HJ18.out; have := HK2.out; first | omega | exact Nat.le_refl _⟩, ⟨by (with_reducible repeat (first | apply Kd.R_alloc | apply Kd.R_drewN | apply Kd.R_drew)); exact HO_25.out⟩, ⟨by repeat (first | (with_reducible first | exact HB.out | apply below_alloc | apply pw_below_drewN | apply below_drew1) | exact HB.out)⟩⟩
                      · as_aux_lemma =>
                        replace c51 := Bool.eq_false_iff.mpr c51
                        subst c51
                        have H1 : (laws_FnStrokesWaitedOfAll.j2 k2 a0 a1 a2 a3 a4 a5 a6 a7 t157 t161 t162 t169 t170 t171 x39_2 true) = some true := by rw [if_neg (show ¬ (false = true) by decide)] at H; exact H
                        clear H
                        have H := H1
                        clear H1
                        have H' := Aside0.mk H
                        clear H
                        go_wp2
                        go_meet
                        case rel => exact ⟨_, (true), (by first | rfl | (simp; done) | (simp [*]; done)), H', ⟨by have := HJ18.out; have := HK2.out; first | omega | exact Nat.le_refl _⟩, ⟨by (with_reducible repeat (first | apply Kd.R_alloc | apply Kd.R_drewN | apply Kd.R_drew)); exact HO_25.out⟩, ⟨by repeat (first | (with_reducible first | exact HB.out | apply below_alloc | apply pw_below_drewN | apply below_drew1) | exact HB.out)⟩⟩
                    case rest =>
                     as_aux_lemma =>
                      clear HC50
                      try clear c1
                      try clear c2
                      try clear p2
                      try clear c3
                      try clear c4
                      try clear c5
                      try clear p6
                      try clear c11
                      try clear c23
                      try clear c23b0
                      try clear c23b1
                      try clear c23b2
                      try clear c24
                      try clear c24b0
                      try clear c24b1
                      try clear c25
                      try clear c25b0
                      try clear c25b1
                      try clear c25b2
                      try clear c27
                      try clear c28
                      try clear c28b0
                      try clear c28b1
                      try clear c28b2
                      try clear c31
                      try clear c31b0
                      try clear c31b1
                      try clear c32
                      try clear c32b0
                      try clear c32b1
                      try clear c33
                      try clear c33b0
                      try clear c33b1
                      try clear c33b2
                      try clear c43
                      try clear c44
                      try clear c45
                      try clear c46
                      try clear c47
                      try clear c47b0
                      try clear c48
                      try clear c48b0
                      try clear c48b1
                      try clear c49
                      try clear c50
                      try clear c51
                      try clear p2
                      obtain ⟨kq, x174_49, rfl, HA, HJ49, HO_25, HB⟩ := hcut
                      cases kq with
                      | zero => exact absurd HA.out (by simp [laws_FnStrokesWaitedOfAll.j2])
                      | succ kj49 =>
                        have H := HA.out
                        clear HA
                        simp only [laws_FnStrokesWaitedOfAll.j2] at H
                        by_cases c52 : x174_49 = true
                        · as_aux_lemma =>
                          subst c52
                          have H1 : (some false) = some true := by rw [if_pos rfl] at H; exact H
                          clear H
                          have H := H1
                          clear H1
                          exact absurd H (by simp)
                        · as_aux_lemma =>
                          replace c52 := Bool.eq_false_iff.mpr c52
                          subst c52
                          have H1 : (if x39_2 ≥ (wrap64 (2 * a0)) then (some false) else (laws_FnStrokesWaitedOfAll.l0 kj49 a0 a1 a2 a3 a4 a5 a6 a7 t157 t161 t162 t169 t170 t171 (wrap64 (x39_2 + 1)))) = some true := by rw [if_neg (show ¬ (false = true) by decide)] at H; exact H
                          clear H
                          have H := H1
                          clear H1
                          by_cases c53 : x39_2 ≥ (wrap64 (2 * a0))
                          · as_aux_lemma =>
                            rw [if_pos c53] at H
                            have c53b0 : decide ((wrap64 (2 * a0)) ≤ x39_2) = true := decide_eq_true c53
                            clear c53
                            exact absurd H (by simp)
                          · as_aux_lemma =>
                            rw [if_neg c53] at H
                            have c53b0 : decide ((wrap64 (2 * a0)) ≤ x39_2) = false := decide_eq_false c53
                            clear c53
                            have H' := Aside0.mk H
                            clear H
                            go_wp2
                            go_roundg kj49
                            case measure => have := HJ18.out; have := HK2.out; have := HJ49.out; omega
                            case rel => exact ⟨(wrap64 (x39_2 + 1)), (by first | rfl | (simp; done) | (simp [*]; done)), H', ⟨by have := HJ18.out; have := HK2.out; have := HJ49.out; omega⟩, ⟨by (with_reducible repeat (first | apply Kd.R_alloc | apply Kd.R_drewN | apply Kd.R_drew)); exact HO_25.out⟩, ⟨by repeat (first | (with_reducible first | exact HB.out | apply below_alloc | apply pw_below_drewN | apply below_drew1) | exact HB.out)⟩⟩
                · as_aux_lemma =>
                  rw [if_neg c47] at H
                  have c47b0 : decide (x39_2 ≤ t157) = false := decide_eq_false c47
                  clear c47
                  (first | rw [c47b0] | (simp only [i64_w, i32_w]; rw [c47b0]) | skip)
                  have H' := Aside0.mk H
                  clear H
                  go_wp2
                  go_meet
                  case rel => exact ⟨_, H', ⟨by have := HJ18.out; have := HK2.out; first | omega | exact Nat.le_refl _⟩, ⟨by (with_reducible repeat (first | apply Kd.R_alloc | apply Kd.R_drewN | apply Kd.R_drew)); exact HO_25.out⟩, ⟨by repeat (first | (with_reducible first | exact HB.out | apply below_alloc | apply pw_below_drewN | apply below_drew1) | exact HB.out)⟩⟩
          · as_aux_lemma =>
            replace c46 := Bool.eq_false_iff.mpr c46
            subst c46
            have H1 : (laws_FnStrokesWaitedOfAll.j3 kj18 a3 a4 a5 a6 a7 t161 t162 t169 t170 t171) = some true := by rw [if_neg (show ¬ (false = true) by decide)] at H; exact H
            clear H
            have H := H1
            clear H1
            have H' := Aside0.mk H
            clear H
            go_wp2
            go_meet
            case rel => exact ⟨_, H', ⟨by have := HJ18.out; first | omega | exact Nat.le_refl _⟩, ⟨by (with_reducible repeat (first | apply Kd.R_alloc | apply Kd.R_drewN | apply Kd.R_drew)); exact HO_25.out⟩, ⟨by repeat (first | (with_reducible first | exact HB.out | apply below_alloc | apply pw_below_drewN | apply below_drew1) | exact HB.out)⟩⟩
        case rest =>
         as_aux_lemma =>
          clear HC45
          try clear c1
          try clear c2
          try clear p2
          try clear c3
          try clear c4
          try clear c5
          try clear p6
          try clear c11
          try clear c23
          try clear c23b0
          try clear c23b1
          try clear c23b2
          try clear c24
          try clear c24b0
          try clear c24b1
          try clear c25
          try clear c25b0
          try clear c25b1
          try clear c25b2
          try clear c27
          try clear c28
          try clear c28b0
          try clear c28b1
          try clear c28b2
          try clear c31
          try clear c31b0
          try clear c31b1
          try clear c32
          try clear c32b0
          try clear c32b1
          try clear c33
          try clear c33b0
          try clear c33b1
          try clear c33b2
          try clear c43
          try clear c44
          try clear c45
          try clear c46
          try clear c47
          try clear c47b0
          try clear c48
          try clear c48b0
          try clear c48b1
          try clear c49
          try clear c50
          try clear c51
          try clear c52
          try clear c53
          try clear c53b0
          try clear p2
          try clear p6
          obtain ⟨kq, HA, HJ44, HO_25, HB⟩ := hcut
          cases kq with
          | zero => exact absurd HA.out (by simp [laws_FnStrokesWaitedOfAll.j3])
          | succ kj44 =>
            have H := HA.out
            clear HA
            simp only [laws_FnStrokesWaitedOfAll.j3] at H
            have HC54 := Aside0.mk H
            clear H
            go_upto_if 179 with (fail)
            go_cut [] (fun wc => ∃ (kq : Nat), Aside0 (laws_FnStrokesWaitedOfAll.j5 kq a6 a7 t169 t170 t171 = some true) ∧ Aside0 (kq ≤ kj44) ∧ Aside0 (Below w.heap.size w wc))
            case first =>
             as_aux_lemma =>
              have H := HC54.out
              clear HC54
              by_cases c55 : t162 = true
              · as_aux_lemma =>
                subst c55
                have H1 : (laws_FnStrokesWaitedOfAll.l1 kj44 a3 a4 a5 a6 a7 t161 t169 t170 t171 t161 (t161.length : Int) 0) = some true := by rw [if_pos rfl] at H; exact H
                clear H
                have H := H1
                clear H1
                have H' := Aside0.mk H
                clear H
                obtain ⟨Ao56, co56, eo56⟩ := Kd.R_slice HO_25.out
                subst eo56
                go_wp2
                go_loopg [182] kj44 (fun kq v182 w' => ∃ (x182_3 : Int), v182 = .int .i64 x182_3 ∧ Aside0 (laws_FnStrokesWaitedOfAll.l1 kq a3 a4 a5 a6 a7 t161 t169 t170 t171 t161 (t161.length : Int) x182_3 = some true) ∧ Aside0 (kq ≤ kj44) ∧ Aside0 (Kd.R (Kd.int .i64) 3 w' w.heap.size (fun _ => True) (.slice Ao56 t161.length co56) t161) ∧ Aside0 (Kd.R (Kd.int .i64) 3 w' w.heap.size (fun _ => True) (.slice Ao56 t161.length co56) t161) ∧ Aside0 (Below w.heap.size w w'))
                case atStart => exact ⟨(0), (by first | rfl | (simp; done) | (simp [*]; done)), H', ⟨Nat.le_refl _⟩, ⟨by (with_reducible repeat (first | apply Kd.R_alloc | apply Kd.R_drewN | apply Kd.R_drew)); exact HO_25.out⟩, ⟨by (with_reducible repeat (first | apply Kd.R_alloc | apply Kd.R_drewN | apply Kd.R_drew)); exact HO_25.out⟩, ⟨by repeat (first | (with_reducible first | exact HB.out | apply below_alloc | apply pw_below_drewN | apply below_drew1) | exact HB.out)⟩⟩
                case round =>
                 as_aux_lemma =>
                  clear H'
                  try clear c1
                  try clear c2
                  try clear p2
                  try clear c3
                  try clear c4
                  try clear c5
                  try clear p6
                  try clear c11
                  try clear c23
                  try clear c23b0
                  try clear c23b1
                  try clear c23b2
                  try clear c24
                  try clear c24b0
                  try clear c24b1
                  try clear c25
                  try clear c25b0
                  try clear c25b1
                  try clear c25b2
                  try clear c27
                  try clear c28
                  try clear c28b0
                  try clear c28b1
                  try clear c28b2
                  try clear c31
                  try clear c31b0
                  try clear c31b1
                  try clear c32
                  try clear c32b0
                  try clear c32b1
                  try clear c33
                  try clear c33b0
                  try clear c33b1
                  try clear c33b2
                  try clear c43
                  try clear c44
                  try clear c45
                  try clear c46
                  try clear c47
                  try clear c47b0
                  try clear c48
                  try clear c48b0
                  try clear c48b1
                  try clear c49
                  try clear c50
                  try clear c51
                  try clear c52
                  try clear c53
                  try clear c53b0
                  try clear c55
                  try clear p2
                  try clear p6
                  obtain ⟨x182_3, rfl, HA, HK3, HO_25, HO_180, HB⟩ := hrel
                  cases gk with
                  | zero => exact absurd HA.out (by simp [laws_FnStrokesWaitedOfAll.l1])
                  | succ k3 =>
                    have H := HA.out
                    clear HA
                    simp only [laws_FnStrokesWaitedOfAll.l1] at H
                    by_cases c57 : x182_3 < (t161.length : Int)
                    · as_aux_lemma =>
                      rw [if_pos c57] at H
                      have c57b0 : decide (x182_3 < (t161.length : Int)) = true := decide_eq_true c57
                      clear c57
                      (first | rw [c57b0] | (simp only [i64_w, i32_w]; rw [c57b0]) | skip)
                      by_cases c58 : 0 ≤ x182_3
                      · as_aux_lemma =>
                        rw [if_pos c58] at H
                        have c58b0 : decide (0 ≤ x182_3) = true := decide_eq_true c58
                        clear c58
                        by_cases c59 : x182_3 < (t161.length : Int)
                        · as_aux_lemma =>
                          rw [if_pos c59] at H
                          have c59b0 : decide (x182_3 < (t161.length : Int)) = true := decide_eq_true c59
                          clear c59
                          by_cases c60 : (wrap64 (2 * a3)) = 0
                          · as_aux_lemma =>
                            rw [if_pos c60] at H
                            exact absurd H (by simp)
                          · as_aux_lemma =>
                            rw [if_neg c60] at H
                            have c60b0 : ((wrap64 (2 * a3)) == 0) = false := beq_eq_false_iff_ne.mpr c60
                            have c60b1 : ((wrap64 (2 * a3)) != 0) = true := bne_iff_ne.mpr c60
                            replace H := Option.bind_eq_some_iff.mp H
                            obtain ⟨⟨t183, t184⟩, A610, H⟩ := H
                            replace H : (if t184 = true then (if (rd t161 x182_3) = t183 then (laws_FnStrokesWaitedOfAll.l1 k3 a3 a4 a5 a6 a7 t161 t169 t170 t171 t161 (t161.length : Int) (wrap64 (x182_3 + 1))) else (some false)) else (some false)) = some true := H
                            have A61 := Aside0.mk A610
                            clear A610
                            by_cases c62 : t184 = true
                            · as_aux_lemma =>
                              subst c62
                              have H1 : (if (rd t161 x182_3) = t183 then (laws_FnStrokesWaitedOfAll.l1 k3 a3 a4 a5 a6 a7 t161 t169 t170 t171 t161 (t161.length : Int) (wrap64 (x182_3 + 1))) else (some false)) = some true := by rw [if_pos rfl] at H; exact H
                              clear H
                              have H := H1
                              clear H1
                              by_cases c63 : (rd t161 x182_3) = t183
                              · as_aux_lemma =>
                                rw [if_pos c63] at H
                                have c63b0 : ((rd t161 x182_3) == t183) = true := beq_iff_eq.mpr c63
                                have c63b1 : ((rd t161 x182_3) != t183) = false := bne_eq_false_iff_eq.mpr c63
                                clear c63
                                have H' := Aside0.mk H
                                clear H
                                have p182 : 0 ≤ (x182_3 : Int) := of_decide_eq_true (by first | (with_reducible assumption) | assumption)
                                have q182 : x182_3 < (t161.length : Int) := of_decide_eq_true (by first | (with_reducible assumption) | assumption)
                                obtain ⟨ad182, e182, hx182_0⟩ := Kd.at_int (Kd.R_reads' HO_180.out).2.2 x182_3 p182 q182
                                cases e182
                                replace p182 := eq_true p182
                                replace q182 := eq_true q182
                                go_wp2_with (first | ((with_reducible refine gate_callee (f := 49) rfl ?_); refine goesL_ (some 195) rfl rfl Try.func49 (by kernel_rfl) rfl #[.int .i64 a3, .int .i64 (Int.tmod (wrap64 (a4 + x182_3)) (wrap64 (2 * a3)))] rfl (by (try simp only [List.map_toArray, List.map_cons, List.map_nil]); first | done | rfl | (simp only [List.length_drop, List.length_take]; rfl)) ?_; (with_reducible refine (impl_StrokesAt.calls a3 (Int.tmod (wrap64 (a4 + x182_3)) (wrap64 (2 * a3))) t183 true _ A61.out).mono ?_); rintro e w' ⟨rfl, ⟨nd, rfl⟩⟩; refine ⟨_, rfl, ?_⟩))
                                go_roundg k3
                                case measure => have := HJ18.out; have := HJ44.out; have := HK3.out; omega
                                case rel => exact ⟨(wrap64 (x182_3 + 1)), (by first | rfl | (simp; done) | (simp [*]; done)), H', ⟨by have := HJ18.out; have := HJ44.out; have := HK3.out; omega⟩, ⟨by (with_reducible repeat (first | apply Kd.R_alloc | apply Kd.R_drewN | apply Kd.R_drew)); exact HO_25.out⟩, ⟨by (with_reducible repeat (first | apply Kd.R_alloc | apply Kd.R_drewN | apply Kd.R_drew)); exact HO_180.out⟩, ⟨by repeat (first | (with_reducible first | exact HB.out | apply below_alloc | apply pw_below_drewN | apply below_drew1) | exact HB.out)⟩⟩
                              · as_aux_lemma =>
                                rw [if_neg c63] at H
                                have c63b0 : ((rd t161 x182_3) == t183) = false := beq_eq_false_iff_ne.mpr c63
                                have c63b1 : ((rd t161 x182_3) != t183) = true := bne_iff_ne.mpr c63
                                exact absurd H (by simp)
                            · as_aux_lemma =>
                              replace c62 := Bool.eq_false_iff.mpr c62
                              subst c62
                              have H1 : (some false) = some true := by rw [if_neg (show ¬ (false = true) by decide)] at H; exact H
                              clear H
                              have H := H1
                              clear H1
                              exact absurd H (by simp)
                        · as_aux_lemma =>
                          rw [if_neg c59] at H
                          exact absurd H (by simp)
                      · as_aux_lemma =>
                        rw [if_neg c58] at H
                        exact absurd H (by simp)
                    · as_aux_lemma =>
                      rw [if_neg c57] at H
                      have c57b0 : decide (x182_3 < (t161.length : Int)) = false := decide_eq_false c57
                      clear c57
                      (first | rw [c57b0] | (simp only [i64_w, i32_w]; rw [c57b0]) | skip)
                      by_cases c64 : (t161.length : Int) = a5
                      · as_aux_lemma =>
                        rw [if_pos c64] at H
                        have c64b0 : ((t161.length : Int) == a5) = true := beq_iff_eq.mpr c64
                        have c64b1 : ((t161.length : Int) != a5) = false := bne_eq_false_iff_eq.mpr c64
                        clear c64
                        have H' := Aside0.mk H
                        clear H
                        go_wp2
                        go_meet
                        case rel => exact ⟨_, H', ⟨by have := HJ18.out; have := HJ44.out; have := HK3.out; first | omega | exact Nat.le_refl _⟩, ⟨by repeat (first | (with_reducible first | exact HB.out | apply below_alloc | apply pw_below_drewN | apply below_drew1) | exact HB.out)⟩⟩
                      · as_aux_lemma =>
                        rw [if_neg c64] at H
                        have c64b0 : ((t161.length : Int) == a5) = false := beq_eq_false_iff_ne.mpr c64
                        have c64b1 : ((t161.length : Int) != a5) = true := bne_iff_ne.mpr c64
                        exact absurd H (by simp)
              · as_aux_lemma =>
                replace c55 := Bool.eq_false_iff.mpr c55
                subst c55
                have H1 : (laws_FnStrokesWaitedOfAll.j5 kj44 a6 a7 t169 t170 t171) = some true := by rw [if_neg (show ¬ (false = true) by decide)] at H; exact H
                clear H
                have H := H1
                clear H1
                have H' := Aside0.mk H
                clear H
                go_wp2
                go_meet
                case rel => exact ⟨_, H', ⟨by have := HJ18.out; have := HJ44.out; first | omega | exact Nat.le_refl _⟩, ⟨by repeat (first | (with_reducible first | exact HB.out | apply below_alloc | apply pw_below_drewN | apply below_drew1) | exact HB.out)⟩⟩
            case rest =>
             as_aux_lemma =>
              clear HC54
              try clear c1
              try clear p1
              try clear q1
              try clear hx1
              try clear c2
              try clear p2
              try clear c3
              try clear c4
              try clear c5
              try clear c6
              try clear p6
              try clear c11
              try clear p18
              try clear q18
              try clear hx18
              try clear c23
              try clear c23b0
              try clear c23b1
              try clear c23b2
              try clear c24
              try clear c24b0
              try clear c24b1
              try clear c25
              try clear c25b0
              try clear c25b1
              try clear c25b2
              try clear c27
              try clear c28
              try clear c28b0
              try clear c28b1
              try clear c28b2
              try clear c31
              try clear c31b0
              try clear c31b1
              try clear c32
              try clear c32b0
              try clear c32b1
              try clear c33
              try clear c33b0
              try clear c33b1
              try clear c33b2
              try clear c43
              try clear c44
              try clear c45
              try clear c46
              try clear c47
              try clear c47b0
              try clear c48
              try clear c48b0
              try clear c48b1
              try clear c49
              try clear c50
              try clear c51
              try clear c52
              try clear c53
              try clear c53b0
              try clear c55
              try clear c57
              try clear c57b0
              try clear c58
              try clear c58b0
              try clear c59
              try clear c59b0
              try clear c60
              try clear c60b0
              try clear c60b1
              try clear c62
              try clear c63
              try clear c63b0
              try clear c63b1
              try clear c64
              try clear c64b0
              try clear c64b1
              try clear p64
              try clear hx182_0
              try clear p182
              try clear p2
              try clear p6
              try clear q182
              obtain ⟨kq, HA, HJ53, HB⟩ := hcut
              cases kq with
              | zero => exact absurd HA.out (by simp [laws_FnStrokesWaitedOfAll.j5])
              | succ kj53 =>
                have H := HA.out
                clear HA
                simp only [laws_FnStrokesWaitedOfAll.j5] at H
                by_cases c65 : t171 = true
                · as_aux_lemma =>
                  subst c65
                  have H1 : (laws_FnStrokesWaitedOfAll.l2 kj53 a6 a7 t169 t170 0) = some true := by rw [if_pos rfl] at H; exact H
                  clear H
                  have H := H1
                  clear H1
                  have H' := Aside0.mk H
                  clear H
                  go_wp2
                  go_loopg [46] kj53 (fun kq v46 w' => ∃ (x46_4 : Int), v46 = .int .i64 x46_4 ∧ Aside0 (laws_FnStrokesWaitedOfAll.l2 kq a6 a7 t169 t170 x46_4 = some true) ∧ Aside0 (kq ≤ kj53) ∧ Aside0 (Below w.heap.size w w'))
                  case atStart => exact ⟨(0), (by first | rfl | (simp; done) | (simp [*]; done)), H', ⟨Nat.le_refl _⟩, ⟨by repeat (first | (with_reducible first | exact HB.out | apply below_alloc | apply pw_below_drewN | apply below_drew1) | exact HB.out)⟩⟩
                  case round =>
                   as_aux_lemma =>
                    clear H'
                    try clear c1
                    try clear p1
                    try clear q1
                    try clear hx1
                    try clear c2
                    try clear p2
                    try clear c3
                    try clear c4
                    try clear c5
                    try clear c6
                    try clear p6
                    try clear c11
                    try clear p18
                    try clear q18
                    try clear hx18
                    try clear c23
                    try clear c23b0
                    try clear c23b1
                    try clear c23b2
                    try clear c24
                    try clear c24b0
                    try clear c24b1
                    try clear c25
                    try clear c25b0
                    try clear c25b1
                    try clear c25b2
                    try clear c27
                    try clear c28
                    try clear c28b0
                    try clear c28b1
                    try clear c28b2
                    try clear c31
                    try clear c31b0
                    try clear c31b1
                    try clear c32
                    try clear c32b0
                    try clear c32b1
                    try clear c33
                    try clear c33b0
                    try clear c33b1
                    try clear c33b2
                    try clear c43
                    try clear c44
                    try clear c45
                    try clear c46
                    try clear c47
                    try clear c47b0
                    try clear c48
                    try clear c48b0
                    try clear c48b1
                    try clear c49
                    try clear c50
                    try clear c51
                    try clear c52
                    try clear c53
                    try clear c53b0
                    try clear c55
                    try clear c57
                    try clear c57b0
                    try clear c58
                    try clear c58b0
                    try clear c59
                    try clear c59b0
                    try clear c60
                    try clear c60b0
                    try clear c60b1
                    try clear c62
                    try clear c63
                    try clear c63b0
                    try clear c63b1
                    try clear c64
                    try clear c64b0
                    try clear c64b1
                    try clear p64
                    try clear c65
                    try clear hx182_0
                    try clear p1
                    try clear p18
                    try clear p182
                    try clear p2
                    try clear p6
                    try clear p64
                    try clear q1
                    try clear q18
                    try clear q182
                    obtain ⟨x46_4, rfl, HA, HK4, HB⟩ := hrel
                    cases gk with
                    | zero => exact absurd HA.out (by simp [laws_FnStrokesWaitedOfAll.l2])
                    | succ k4 =>
                      have H := HA.out
                      clear HA
                      simp only [laws_FnStrokesWaitedOfAll.l2] at H
                      by_cases c66 : x46_4 < (wrap64 (2 * a6))
                      · as_aux_lemma =>
                        rw [if_pos c66] at H
                        have c66b0 : decide (x46_4 < (wrap64 (2 * a6))) = true := decide_eq_true c66
                        clear c66
                        replace H := Option.bind_eq_some_iff.mp H
                        obtain ⟨⟨t185, t186⟩, A670, H⟩ := H
                        replace H : (if t186 = true then (if t185 > t170 then (some false) else (if x46_4 < t169 then (if t185 = t170 then (some false) else (if x46_4 = t169 then (some false) else (laws_FnStrokesWaitedOfAll.l2 k4 a6 a7 t169 t170 (wrap64 (x46_4 + 1))))) else (if x46_4 = t169 then (if t185 = t170 then (laws_FnStrokesWaitedOfAll.l2 k4 a6 a7 t169 t170 (wrap64 (x46_4 + 1))) else (some false)) else (laws_FnStrokesWaitedOfAll.l2 k4 a6 a7 t169 t170 (wrap64 (x46_4 + 1)))))) else (some false)) = some true := H
                        have A67 := Aside0.mk A670
                        clear A670
                        by_cases c68 : t186 = true
                        · as_aux_lemma =>
                          subst c68
                          have H1 : (if t185 > t170 then (some false) else (if x46_4 < t169 then (if t185 = t170 then (some false) else (if x46_4 = t169 then (some false) else (laws_FnStrokesWaitedOfAll.l2 k4 a6 a7 t169 t170 (wrap64 (x46_4 + 1))))) else (if x46_4 = t169 then (if t185 = t170 then (laws_FnStrokesWaitedOfAll.l2 k4 a6 a7 t169 t170 (wrap64 (x46_4 + 1))) else (some false)) else (laws_FnStrokesWaitedOfAll.l2 k4 a6 a7 t169 t170 (wrap64 (x46_4 + 1)))))) = some true := by rw [if_pos rfl] at H; exact H
                          clear H
                          have H := H1
                          clear H1
                          by_cases c69 : t185 > t170
                          · as_aux_lemma =>
                            rw [if_pos c69] at H
                            have c69b0 : decide (t170 < t185) = true := decide_eq_true c69
                            clear c69
                            exact absurd H (by simp)
                          · as_aux_lemma =>
                            rw [if_neg c69] at H
                            have c69b0 : decide (t170 < t185) = false := decide_eq_false c69
                            clear c69
                            by_cases c70 : x46_4 < t169
                            · as_aux_lemma =>
                              rw [if_pos c70] at H
                              have c70b0 : decide (x46_4 < t169) = true := decide_eq_true c70
                              clear c70
                              by_cases c71 : t185 = t170
                              · as_aux_lemma =>
                                rw [if_pos c71] at H
                                have c71b0 : (t185 == t170) = true := beq_iff_eq.mpr c71
                                have c71b1 : (t185 != t170) = false := bne_eq_false_iff_eq.mpr c71
                                clear c71
                                exact absurd H (by simp)
                              · as_aux_lemma =>
                                rw [if_neg c71] at H
                                have c71b0 : (t185 == t170) = false := beq_eq_false_iff_ne.mpr c71
                                have c71b1 : (t185 != t170) = true := bne_iff_ne.mpr c71
                                by_cases c72 : x46_4 = t169
                                · as_aux_lemma =>
                                  rw [if_pos c72] at H
                                  have c72b0 : (x46_4 == t169) = true := beq_iff_eq.mpr c72
                                  have c72b1 : (x46_4 != t169) = false := bne_eq_false_iff_eq.mpr c72
                                  clear c72
                                  exact absurd H (by simp)
                                · as_aux_lemma =>
                                  rw [if_neg c72] at H
                                  have c72b0 : (x46_4 == t169) = false := beq_eq_false_iff_ne.mpr c72
                                  have c72b1 : (x46_4 != t169) = true := bne_iff_ne.mpr c72
                                  have H' := Aside0.mk H
                                  clear H
                                  go_wp2_with (first | ((with_reducible refine gate_callee (f := 52) rfl ?_); refine goesL_ (some 224) rfl rfl Try.func52 (by kernel_rfl) rfl #[.int .i64 a6, .int .i64 x46_4, .int .i64 (wrap64 ((wrap64 (x46_4 + a7)) - 1))] rfl (by (try simp only [List.map_toArray, List.map_cons, List.map_nil]); first | done | rfl | (simp only [List.length_drop, List.length_take]; rfl)) ?_; (with_reducible refine (impl_StrokesBetween.calls k4 a6 x46_4 (wrap64 ((wrap64 (x46_4 + a7)) - 1)) t185 true _ A67.out).mono ?_); rintro e w73 ⟨rfl, hb⟩; refine ⟨_, rfl, ?_⟩; have n0_ := Aside0.mk (below_step (by repeat (first | (with_reducible first | exact HB.out | apply below_alloc | apply pw_below_drewN | apply below_drew1) | exact HB.out)) hb); clear HB; have HB := n0_; clear n0_; (try clear hb); (try clear hb2); (try clear hk); (try clear hi)))
                                  go_roundg k4
                                  case measure => have := HJ18.out; have := HJ44.out; have := HJ53.out; have := HK4.out; omega
                                  case rel => exact ⟨(wrap64 (x46_4 + 1)), (by first | rfl | (simp; done) | (simp [*]; done)), H', ⟨by have := HJ18.out; have := HJ44.out; have := HJ53.out; have := HK4.out; omega⟩, ⟨by repeat (first | (with_reducible first | exact HB.out | apply below_alloc | apply pw_below_drewN | apply below_drew1) | exact HB.out)⟩⟩
                            · as_aux_lemma =>
                              rw [if_neg c70] at H
                              have c70b0 : decide (x46_4 < t169) = false := decide_eq_false c70
                              clear c70
                              by_cases c74 : x46_4 = t169
                              · as_aux_lemma =>
                                rw [if_pos c74] at H
                                have c74b0 : (x46_4 == t169) = true := beq_iff_eq.mpr c74
                                have c74b1 : (x46_4 != t169) = false := bne_eq_false_iff_eq.mpr c74
                                clear c74
                                by_cases c75 : t185 = t170
                                · as_aux_lemma =>
                                  rw [if_pos c75] at H
                                  have c75b0 : (t185 == t170) = true := beq_iff_eq.mpr c75
                                  have c75b1 : (t185 != t170) = false := bne_eq_false_iff_eq.mpr c75
                                  clear c75
                                  have H' := Aside0.mk H
                                  clear H
                                  go_wp2_with (first | ((with_reducible refine gate_callee (f := 52) rfl ?_); refine goesL_ (some 224) rfl rfl Try.func52 (by kernel_rfl) rfl #[.int .i64 a6, .int .i64 x46_4, .int .i64 (wrap64 ((wrap64 (x46_4 + a7)) - 1))] rfl (by (try simp only [List.map_toArray, List.map_cons, List.map_nil]); first | done | rfl | (simp only [List.length_drop, List.length_take]; rfl)) ?_; (with_reducible refine (impl_StrokesBetween.calls k4 a6 x46_4 (wrap64 ((wrap64 (x46_4 + a7)) - 1)) t185 true _ A67.out).mono ?_); rintro e w76 ⟨rfl, hb⟩; refine ⟨_, rfl, ?_⟩; have n0_ := Aside0.mk (below_step (by repeat (first | (with_reducible first | exact HB.out | apply below_alloc | apply pw_below_drewN | apply below_drew1) | exact HB.out)) hb); clear HB; have HB := n0_; clear n0_; (try clear hb); (try clear hb2); (try clear hk); (try clear hi)))
                                  go_roundg k4
                                  case measure => have := HJ18.out; have := HJ44.out; have := HJ53.out; have := HK4.out; omega
                                  case rel => exact ⟨(wrap64 (x46_4 + 1)), (by first | rfl | (simp; done) | (simp [*]; done)), H', ⟨by have := HJ18.out; have := HJ44.out; have := HJ53.out; have := HK4.out; omega⟩, ⟨by repeat (first | (with_reducible first | exact HB.out | apply below_alloc | apply pw_below_drewN | apply below_drew1) | exact HB.out)⟩⟩
                                · as_aux_lemma =>
                                  rw [if_neg c75] at H
                                  have c75b0 : (t185 == t170) = false := beq_eq_false_iff_ne.mpr c75
                                  have c75b1 : (t185 != t170) = true := bne_iff_ne.mpr c75
                                  exact absurd H (by simp)
                              · as_aux_lemma =>
                                rw [if_neg c74] at H
                                have c74b0 : (x46_4 == t169) = false := beq_eq_false_iff_ne.mpr c74
                                have c74b1 : (x46_4 != t169) = true := bne_iff_ne.mpr c74
                                have H' := Aside0.mk H
                                clear H
                                go_wp2_with (first | ((with_reducible refine gate_callee (f := 52) rfl ?_); refine goesL_ (some 224) rfl rfl Try.func52 (by kernel_rfl) rfl #[.int .i64 a6, .int .i64 x46_4, .int .i64 (wrap64 ((wrap64 (x46_4 + a7)) - 1))] rfl (by (try simp only [List.map_toArray, List.map_cons, List.map_nil]); first | done | rfl | (simp only [List.length_drop, List.length_take]; rfl)) ?_; (with_reducible refine (impl_StrokesBetween.calls k4 a6 x46_4 (wrap64 ((wrap64 (x46_4 + a7)) - 1)) t185 true _ A67.out).mono ?_); rintro e w77 ⟨rfl, hb⟩; refine ⟨_, rfl, ?_⟩; have n0_ := Aside0.mk (below_step (by repeat (first | (with_reducible first | exact HB.out | apply below_alloc | apply pw_below_drewN | apply below_drew1) | exact HB.out)) hb); clear HB; have HB := n0_; clear n0_; (try clear hb); (try clear hb2); (try clear hk); (try clear hi)))
                                go_roundg k4
                                case measure => have := HJ18.out; have := HJ44.out; have := HJ53.out; have := HK4.out; omega
                                case rel => exact ⟨(wrap64 (x46_4 + 1)), (by first | rfl | (simp; done) | (simp [*]; done)), H', ⟨by have := HJ18.out; have := HJ44.out; have := HJ53.out; have := HK4.out; omega⟩, ⟨by repeat (first | (with_reducible first | exact HB.out | apply below_alloc | apply pw_below_drewN | apply below_drew1) | exact HB.out)⟩⟩
                        · as_aux_lemma =>
                          replace c68 := Bool.eq_false_iff.mpr c68
                          subst c68
                          have H1 : (some false) = some true := by rw [if_neg (show ¬ (false = true) by decide)] at H; exact H
                          clear H
                          have H := H1
                          clear H1
                          exact absurd H (by simp)
                      · as_aux_lemma =>
                        rw [if_neg c66] at H
                        have c66b0 : decide (x46_4 < (wrap64 (2 * a6))) = false := decide_eq_false c66
                        clear c66
                        clear H
                        go_wp2
                        go_ret
                        exact ⟨by first | rfl | (simp [errW_none, errW_some] <;> rfl) | (simp [*, errW_none, errW_some] <;> rfl), by repeat (first | (with_reducible first | exact HB.out | apply below_alloc | apply pw_below_drewN | apply below_drew1) | exact HB.out)⟩
                · as_aux_lemma =>
                  replace c65 := Bool.eq_false_iff.mpr c65
                  subst c65
                  have H1 : (some true) = some true := rfl
                  clear H
                  have H := H1
                  clear H1
                  clear H
                  go_wp2
                  go_ret
                  exact ⟨by first | rfl | (simp [errW_none, errW_some] <;> rfl) | (simp [*, errW_none, errW_some] <;> rfl), by repeat (first | (with_reducible first | exact HB.out | apply below_alloc | apply pw_below_drewN | apply below_drew1) | exact HB.out)⟩

/-- THE ONE PURE STATEMENT of laws_FnStrokesWaitedOfAll: yours. -/
def laws_FnStrokesWaitedOfAll.Pure : Prop := ∀ (a0 : Int) (a1 : Int) (a2 : Int) (a3 : Int) (a4 : Int) (a5 : Int) (a6 : Int) (a7 : Int) (a8 : Int) (a9 : Int), (Lit.int .i64 a0).wf = true → (Lit.int .i64 a1).wf = true → (Lit.int .i64 a2).wf = true → (Lit.int .i64 a3).wf = true → (Lit.int .i64 a4).wf = true → (Lit.int .i64 a5).wf = true → (Lit.int .i64 a6).wf = true → (Lit.int .i64 a7).wf = true → (Lit.int .i64 a8).wf = true → (Lit.int .i64 a9).wf = true → ∃ k, laws_FnStrokesWaitedOfAll.f k a0 a1 a2 a3 a4 a5 a6 a7 a8 a9 = some true
theorem laws_FnStrokesWaitedOfAll.walk (P : laws_FnStrokesWaitedOfAll.Pure) (a0 : Int) (a1 : Int) (a2 : Int) (a3 : Int) (a4 : Int) (a5 : Int) (a6 : Int) (a7 : Int) (a8 : Int) (a9 : Int) (w : World) (w0 : (Lit.int .i64 a0).wf = true) (w1 : (Lit.int .i64 a1).wf = true) (w2 : (Lit.int .i64 a2).wf = true) (w3 : (Lit.int .i64 a3).wf = true) (w4 : (Lit.int .i64 a4).wf = true) (w5 : (Lit.int .i64 a5).wf = true) (w6 : (Lit.int .i64 a6).wf = true) (w7 : (Lit.int .i64 a7).wf = true) (w8 : (Lit.int .i64 a8).wf = true) (w9 : (Lit.int .i64 a9).wf = true) :
    Calls Try.prog 11 #[.int .i64 a0, .int .i64 a1, .int .i64 a2, .int .i64 a3, .int .i64 a4, .int .i64 a5, .int .i64 a6, .int .i64 a7, .int .i64 a8, .int .i64 a9] w fun e w' => e = .returned (.bool true) ∧ Below w.heap.size w w' := by
  obtain ⟨k, h⟩ := P a0 a1 a2 a3 a4 a5 a6 a7 a8 a9 w0 w1 w2 w3 w4 w5 w6 w7 w8 w9
  refine (laws_FnStrokesWaitedOfAll.calls k a0 a1 a2 a3 a4 a5 a6 a7 a8 a9 w h).mono ?_
  rintro e w' ⟨rfl, hd⟩
  exact ⟨rfl, hd⟩

end Go.Proofs.Ytjjbockboifcbaa.PFnStrokesWaitedOfAll
