/- A part of the walk of FnHandsMeet: which Lean function each Go function comes to, and that the machine's call does so. Written by a program of this repo (wip/gen/xprint.py). -/
import Derived.Test.YtoneipoioiokcaaPFnHandsMeetx0
import Derived.Test.YtoneipoioiokcaaPFnHandsMeetx1
import Derived.Test.YtoneipoioiokcaaPFnHandsMeetx2
import Derived.Test.YtoneipoioiokcaaPFnHandsMeetx5
import Derived.Test.YtoneipoioiokcaaPFnHandsMeetx6
import Derived.Test.YtoneipoioiokcaaPFnHandsMeetx10
import Derived.Test.YtoneipoioiokcaaPFnHandsMeetx12
import Derived.Test.YtoneipoioiokcaaPFnHandsMeetx13
import Derived.Test.YtoneipoioiokcaaPFnHandsMeetx15
import Derived.Test.YtoneipoioiokcaaPFnHandsMeetx17
import Derived.Test.YtoneipoioiokcaaPFnHandsMeetx18
import Derived.Test.YtoneipoioiokcaaPFnHandsMeetx19
import Derived.Test.YtoneipoioiokcaaPFnHandsMeetx20
import Derived.Test.YtoneipoioiokcaaPFnHandsMeetx21
namespace Go.Proofs.Ytoneipoioiokcaa.PFnHandsMeet
open Go.RowKit Go.Proofs.YtoneipoioiokcaaW.PrintWords Go.Proofs.YtoneipoioiokcaaW.PrintLast Go.Proofs.YtoneipoioiokcaaW.PrintMore
attribute [local go_sem] max2_int min2_int max_two min_two max_three min_three max_four min_four   -- for this text's walks alone
set_option linter.unusedVariables false
set_option linter.unusedSimpArgs false

attribute [local go_sem high] eqA25
/-! ### laws_FnHandsMeet: function 3 -/
mutual
def laws_FnHandsMeet.j0 : Nat → List Int → List (S25) → Bool → Int → List (S25) → Bool → Bool → Int → Int → Int → Int → Int → Int → Int → Int → Option (Bool)
  | 0, _, _, _, _, _, _, _, _, _, _, _, _, _, _, _ => none
  | k + 1, x1, x7, x8, x11, x19, x20, x166, x524000, x524001, x524002, x525000, x525001, x525002, x541000, x541001 => if x166 = true then (some false) else (if x8 = true then (if (x7.length : Int) = x11 then ((laws_kAbs.f (wrap64 (x524002 - x525002))).bind fun t561 => (if x11 = t561 then (if 0 < (x7.length : Int) then (if (!(((rd_T25 x7 0).f0) == x541000) || (!(((rd_T25 x7 0).f1) == x541001))) = true then (laws_FnHandsMeet.j1 k x1 x7 x11 x19 x20 true x524000 x524001 x524002 x525000 x525001 x525002) else ((laws_kRises.f k x7).bind fun t563 => (laws_FnHandsMeet.j1 k x1 x7 x11 x19 x20 (!t563) x524000 x524001 x524002 x525000 x525001 x525002))) else (none)) else (laws_FnHandsMeet.j1 k x1 x7 x11 x19 x20 true x524000 x524001 x524002 x525000 x525001 x525002))) else (laws_FnHandsMeet.j1 k x1 x7 x11 x19 x20 true x524000 x524001 x524002 x525000 x525001 x525002)) else (laws_FnHandsMeet.j4 k x1 x11 x19 x20))
def laws_FnHandsMeet.j4 : Nat → List Int → Int → List (S25) → Bool → Option (Bool)
  | 0, _, _, _, _ => none
  | k + 1, x1, x11, x19, x20 => if x20 = true then ((laws_kRises.f k x19).bind fun t585 => (if t585 = true then (if (x19.length : Int) < 1 then (laws_FnHandsMeet.j5 k x1 true) else (laws_FnHandsMeet.j5 k x1 (decide ((x19.length : Int) > x11)))) else (laws_FnHandsMeet.j5 k x1 true))) else (laws_FnHandsMeet.j5 k x1 false)
def laws_FnHandsMeet.j5 : Nat → List Int → Bool → Option (Bool)
  | 0, _, _ => none
  | k + 1, x1, x284 => if x284 = true then (some false) else ((spec_DrawNextMeet.f k x1).bind fun bt586 => ((impl_NextMeet.f k bt586.1 bt586.2.1 bt586.2.2.1 bt586.2.2.2.1 bt586.2.2.2.2.1 bt586.2.2.2.2.2.1 bt586.2.2.2.2.2.2.1 bt586.2.2.2.2.2.2.2).bind fun bt597 => ((spec_NextMeet.f k bt586.1 bt586.2.1 bt586.2.2.1 bt586.2.2.2.1 bt586.2.2.2.2.1 bt586.2.2.2.2.2.1 bt586.2.2.2.2.2.2.1 bt586.2.2.2.2.2.2.2).bind fun bt601 => (if (bt597.2.2 != bt601.2.2) = true then (laws_FnHandsMeet.j6 k bt597.2.2 true bt586.1 bt586.2.1 bt586.2.2.1 bt586.2.2.2.1 bt586.2.2.2.2.1 bt586.2.2.2.2.2.1 bt586.2.2.2.2.2.2.1 bt586.2.2.2.2.2.2.2 bt597.1 bt597.2.1) else (laws_FnHandsMeet.j6 k bt597.2.2 (!(bt597.1 == bt601.1) || (!(bt597.2.1 == bt601.2.1))) bt586.1 bt586.2.1 bt586.2.2.1 bt586.2.2.2.1 bt586.2.2.2.2.1 bt586.2.2.2.2.2.1 bt586.2.2.2.2.2.2.1 bt586.2.2.2.2.2.2.2 bt597.1 bt597.2.1)))))
def laws_FnHandsMeet.j6 : Nat → Bool → Bool → Int → Int → Int → Int → Int → Int → Int → Int → Int → Int → Option (Bool)
  | 0, _, _, _, _, _, _, _, _, _, _, _, _ => none
  | k + 1, x37, x312, x595000, x595001, x595002, x596000, x596001, x596002, x597000, x597001, x601000, x601001 => if x312 = true then (some false) else (if x37 = true then ((impl_MeetTimes.f k x595000 x595001 x595002 x596000 x596001 x596002).bind fun bt605 => (if bt605.2 = true then ((laws_kIn.f k bt605.1 x601000 x601001).bind fun t609 => (laws_FnHandsMeet.j7 k bt605.1 (!t609) x597000 x597001 x601000 x601001)) else (laws_FnHandsMeet.j7 k bt605.1 true x597000 x597001 x601000 x601001))) else (some true))
def laws_FnHandsMeet.j7 : Nat → List (S25) → Bool → Int → Int → Int → Int → Option (Bool)
  | 0, _, _, _, _, _, _ => none
  | k + 1, x40, x327, x597000, x597001, x601000, x601001 => if x327 = true then (some false) else (laws_FnHandsMeet.l1 k (decide ((wrap64 (x601000 * x597001)) > (wrap64 (x597000 * x601001)))) x40 (x40.length : Int) 0 x597000 x597001 x601000 x601001)
def laws_FnHandsMeet.l1 : Nat → Bool → List (S25) → Int → Int → Int → Int → Int → Int → Option (Bool)
  | 0, _, _, _, _, _, _, _, _ => none
  | k + 1, x42, x339, x340, x341, x597000, x597001, x601000, x601001 => if x341 < x340 then (if 0 ≤ x341 then (if x341 < (x339.length : Int) then (if (wrap64 (((rd_T25 x339 x341).f0) * x597001)) > (wrap64 (x597000 * ((rd_T25 x339 x341).f1))) then (if x42 = true then (if (wrap64 (((rd_T25 x339 x341).f0) * x601001)) < (wrap64 (x601000 * ((rd_T25 x339 x341).f1))) then (some false) else (laws_FnHandsMeet.l1 k x42 x339 x340 (wrap64 (x341 + 1)) x597000 x597001 x601000 x601001)) else (some false)) else (laws_FnHandsMeet.l1 k x42 x339 x340 (wrap64 (x341 + 1)) x597000 x597001 x601000 x601001)) else (none)) else (none)) else (some true)
def laws_FnHandsMeet.j1 : Nat → List Int → List (S25) → Int → List (S25) → Bool → Bool → Int → Int → Int → Int → Int → Int → Option (Bool)
  | 0, _, _, _, _, _, _, _, _, _, _, _, _ => none
  | k + 1, x1, x7, x11, x19, x20, x193, x524000, x524001, x524002, x525000, x525001, x525002 => if x193 = true then (some false) else (laws_FnHandsMeet.l0 k x1 x7 x11 x19 x20 x7 (x7.length : Int) 0 x524000 x524001 x524002 x525000 x525001 x525002)
def laws_FnHandsMeet.l0 : Nat → List Int → List (S25) → Int → List (S25) → Bool → List (S25) → Int → Int → Int → Int → Int → Int → Int → Int → Option (Bool)
  | 0, _, _, _, _, _, _, _, _, _, _, _, _, _, _ => none
  | k + 1, x1, x7, x11, x19, x20, x194, x195, x196, x524000, x524001, x524002, x525000, x525001, x525002 => if x196 < x195 then (if 0 ≤ x196 then (if x196 < (x194.length : Int) then ((impl_HandAt.f k x524000 x524001 x524002 ((rd_T25 x194 x196).f0) ((rd_T25 x194 x196).f1)).bind fun bt566 => ((impl_HandAt.f k x525000 x525001 x525002 ((rd_T25 x194 x196).f0) ((rd_T25 x194 x196).f1)).bind fun bt570 => (if (bt566.2.2 != bt570.2.2) = true then (laws_FnHandsMeet.j3 k x1 x7 x11 x19 x20 x196 x194 x195 x196 true x524000 x524001 x524002 x525000 x525001 x525002 ((rd_T25 x194 x196).f0) ((rd_T25 x194 x196).f1)) else (if bt566.2.2 = true then (if (!(bt566.1 == bt570.1) || (!(bt566.2.1 == bt570.2.1))) = true then (laws_FnHandsMeet.j3 k x1 x7 x11 x19 x20 x196 x194 x195 x196 true x524000 x524001 x524002 x525000 x525001 x525002 ((rd_T25 x194 x196).f0) ((rd_T25 x194 x196).f1)) else (if x20 = true then ((laws_kIn.f k x19 bt566.1 bt566.2.1).bind fun t574 => (laws_FnHandsMeet.j3 k x1 x7 x11 x19 x20 x196 x194 x195 x196 (!t574) x524000 x524001 x524002 x525000 x525001 x525002 ((rd_T25 x194 x196).f0) ((rd_T25 x194 x196).f1))) else (laws_FnHandsMeet.j3 k x1 x7 x11 x19 x20 x196 x194 x195 x196 false x524000 x524001 x524002 x525000 x525001 x525002 ((rd_T25 x194 x196).f0) ((rd_T25 x194 x196).f1)))) else (laws_FnHandsMeet.j3 k x1 x7 x11 x19 x20 x196 x194 x195 x196 false x524000 x524001 x524002 x525000 x525001 x525002 ((rd_T25 x194 x196).f0) ((rd_T25 x194 x196).f1)))))) else (none)) else (none)) else ((impl_MeetTimes.f k x525000 x525001 x525002 x524000 x524001 x524002).bind fun bt580 => (if bt580.2 = true then ((laws_kTurns.f k bt580.1 x7).bind fun t584 => (if t584 = true then (laws_FnHandsMeet.j4 k x1 x11 x19 x20) else (some false))) else (some false)))
def laws_FnHandsMeet.j3 : Nat → List Int → List (S25) → Int → List (S25) → Bool → Int → List (S25) → Int → Int → Bool → Int → Int → Int → Int → Int → Int → Int → Int → Option (Bool)
  | 0, _, _, _, _, _, _, _, _, _, _, _, _, _, _, _, _, _, _ => none
  | k + 1, x1, x7, x11, x19, x20, x23, x194, x195, x196, x232, x524000, x524001, x524002, x525000, x525001, x525002, x566000, x566001 => if x232 = true then (some false) else ((impl_NextMeet.f k x524000 x524001 x524002 x525000 x525001 x525002 x566000 x566001).bind fun bt575 => (if bt575.2.2 = true then (if x11 = 0 then (none) else (if 0 ≤ (Int.tmod (wrap64 (x23 + 1)) x11) then (if (Int.tmod (wrap64 (x23 + 1)) x11) < (x7.length : Int) then (if (!(bt575.1 == ((rd_T25 x7 (Int.tmod (wrap64 (x23 + 1)) x11)).f0)) || (!(bt575.2.1 == ((rd_T25 x7 (Int.tmod (wrap64 (x23 + 1)) x11)).f1)))) = true then (some false) else (laws_FnHandsMeet.l0 k x1 x7 x11 x19 x20 x194 x195 (wrap64 (x196 + 1)) x524000 x524001 x524002 x525000 x525001 x525002)) else (none)) else (none))) else (some false)))
end
def laws_FnHandsMeet.f (k : Nat) (l0 : List Int) (l1 : List Int) : Option (Bool) := (laws_big.f l0 l1).bind fun t516 => (if t516 = true then (some true) else ((spec_DrawMeetTimes.f k l0).bind fun bt517 => ((impl_MeetTimes.f k bt517.1 bt517.2.1 bt517.2.2.1 bt517.2.2.2.1 bt517.2.2.2.2.1 bt517.2.2.2.2.2).bind fun bt525 => ((spec_MeetTimes.f k bt517.1 bt517.2.1 bt517.2.2.1 bt517.2.2.2.1 bt517.2.2.2.2.1 bt517.2.2.2.2.2).bind fun bt529 => ((impl_CountMeets.f bt517.1 bt517.2.1 bt517.2.2.1 bt517.2.2.2.1 bt517.2.2.2.2.1 bt517.2.2.2.2.2).bind fun bt533 => ((spec_CountMeets.f k bt517.1 bt517.2.1 bt517.2.2.1 bt517.2.2.2.1 bt517.2.2.2.2.1 bt517.2.2.2.2.2).bind fun bt535 => ((impl_FirstMeet.f k bt517.1 bt517.2.1 bt517.2.2.1 bt517.2.2.2.1 bt517.2.2.2.2.1 bt517.2.2.2.2.2).bind fun bt537 => ((spec_FirstMeet.f k bt517.1 bt517.2.1 bt517.2.2.1 bt517.2.2.2.1 bt517.2.2.2.2.1 bt517.2.2.2.2.2).bind fun bt541 => ((impl_MeetPlaces.f k bt517.1 bt517.2.1 bt517.2.2.1 bt517.2.2.2.1 bt517.2.2.2.2.1 bt517.2.2.2.2.2).bind fun bt545 => ((spec_MeetPlaces.f k bt517.1 bt517.2.1 bt517.2.2.1 bt517.2.2.2.1 bt517.2.2.2.2.1 bt517.2.2.2.2.2).bind fun bt549 => (if (bt525.2 != bt529.2) = true then (laws_FnHandsMeet.j0 k l1 bt525.1 bt525.2 bt533.1 bt545.1 bt545.2 true bt517.1 bt517.2.1 bt517.2.2.1 bt517.2.2.2.1 bt517.2.2.2.2.1 bt517.2.2.2.2.2 bt537.1 bt537.2.1) else ((laws_kTurns.f k bt525.1 bt529.1).bind fun t553 => (if t553 = true then (if (bt533.2 != bt535.2) = true then (laws_FnHandsMeet.j0 k l1 bt525.1 bt525.2 bt533.1 bt545.1 bt545.2 true bt517.1 bt517.2.1 bt517.2.2.1 bt517.2.2.2.1 bt517.2.2.2.2.1 bt517.2.2.2.2.2 bt537.1 bt537.2.1) else (if bt533.1 = bt535.1 then (if (bt537.2.2 != bt541.2.2) = true then (laws_FnHandsMeet.j0 k l1 bt525.1 bt525.2 bt533.1 bt545.1 bt545.2 true bt517.1 bt517.2.1 bt517.2.2.1 bt517.2.2.2.1 bt517.2.2.2.2.1 bt517.2.2.2.2.2 bt537.1 bt537.2.1) else (if (!(bt537.1 == bt541.1) || (!(bt537.2.1 == bt541.2.1))) = true then (laws_FnHandsMeet.j0 k l1 bt525.1 bt525.2 bt533.1 bt545.1 bt545.2 true bt517.1 bt517.2.1 bt517.2.2.1 bt517.2.2.2.1 bt517.2.2.2.2.1 bt517.2.2.2.2.2 bt537.1 bt537.2.1) else (if (bt545.2 != bt549.2) = true then (laws_FnHandsMeet.j0 k l1 bt525.1 bt525.2 bt533.1 bt545.1 bt545.2 true bt517.1 bt517.2.1 bt517.2.2.1 bt517.2.2.2.1 bt517.2.2.2.2.1 bt517.2.2.2.2.2 bt537.1 bt537.2.1) else ((laws_kTurns.f k bt545.1 bt549.1).bind fun t554 => (if t554 = true then (if (bt537.2.2 != bt525.2) = true then (laws_FnHandsMeet.j0 k l1 bt525.1 bt525.2 bt533.1 bt545.1 bt545.2 true bt517.1 bt517.2.1 bt517.2.2.1 bt517.2.2.2.1 bt517.2.2.2.2.1 bt517.2.2.2.2.2 bt537.1 bt537.2.1) else (if bt545.2 = true then (if bt525.2 = true then (if bt533.2 = true then ((impl_IsHand.f k bt517.1 bt517.2.1 bt517.2.2.1).bind fun t555 => ((spec_IsHand.f k bt517.1 bt517.2.1 bt517.2.2.1).bind fun t556 => (laws_FnHandsMeet.j0 k l1 bt525.1 bt525.2 bt533.1 bt545.1 bt545.2 (t555 != t556) bt517.1 bt517.2.1 bt517.2.2.1 bt517.2.2.2.1 bt517.2.2.2.2.1 bt517.2.2.2.2.2 bt537.1 bt537.2.1))) else (laws_FnHandsMeet.j0 k l1 bt525.1 bt525.2 bt533.1 bt545.1 bt545.2 true bt517.1 bt517.2.1 bt517.2.2.1 bt517.2.2.2.1 bt517.2.2.2.2.1 bt517.2.2.2.2.2 bt537.1 bt537.2.1)) else (laws_FnHandsMeet.j0 k l1 bt525.1 bt525.2 bt533.1 bt545.1 bt545.2 true bt517.1 bt517.2.1 bt517.2.2.1 bt517.2.2.2.1 bt517.2.2.2.2.1 bt517.2.2.2.2.2 bt537.1 bt537.2.1)) else (if bt525.2 = true then (if bt533.2 = true then ((impl_IsHand.f k bt517.1 bt517.2.1 bt517.2.2.1).bind fun t557 => ((spec_IsHand.f k bt517.1 bt517.2.1 bt517.2.2.1).bind fun t558 => (laws_FnHandsMeet.j0 k l1 bt525.1 bt525.2 bt533.1 bt545.1 bt545.2 (t557 != t558) bt517.1 bt517.2.1 bt517.2.2.1 bt517.2.2.2.1 bt517.2.2.2.2.1 bt517.2.2.2.2.2 bt537.1 bt537.2.1))) else (laws_FnHandsMeet.j0 k l1 bt525.1 bt525.2 bt533.1 bt545.1 bt545.2 true bt517.1 bt517.2.1 bt517.2.2.1 bt517.2.2.2.1 bt517.2.2.2.2.1 bt517.2.2.2.2.2 bt537.1 bt537.2.1)) else ((impl_IsHand.f k bt517.1 bt517.2.1 bt517.2.2.1).bind fun t559 => ((spec_IsHand.f k bt517.1 bt517.2.1 bt517.2.2.1).bind fun t560 => (laws_FnHandsMeet.j0 k l1 bt525.1 bt525.2 bt533.1 bt545.1 bt545.2 (t559 != t560) bt517.1 bt517.2.1 bt517.2.2.1 bt517.2.2.2.1 bt517.2.2.2.2.1 bt517.2.2.2.2.2 bt537.1 bt537.2.1)))))) else (laws_FnHandsMeet.j0 k l1 bt525.1 bt525.2 bt533.1 bt545.1 bt545.2 true bt517.1 bt517.2.1 bt517.2.2.1 bt517.2.2.2.1 bt517.2.2.2.2.1 bt517.2.2.2.2.2 bt537.1 bt537.2.1)))))) else (laws_FnHandsMeet.j0 k l1 bt525.1 bt525.2 bt533.1 bt545.1 bt545.2 true bt517.1 bt517.2.1 bt517.2.2.1 bt517.2.2.2.1 bt517.2.2.2.2.1 bt517.2.2.2.2.2 bt537.1 bt537.2.1))) else (laws_FnHandsMeet.j0 k l1 bt525.1 bt525.2 bt533.1 bt545.1 bt545.2 true bt517.1 bt517.2.1 bt517.2.2.1 bt517.2.2.2.1 bt517.2.2.2.2.1 bt517.2.2.2.2.2 bt537.1 bt537.2.1))))))))))))))
def laws_FnHandsMeet.T12 : Bool × List (List Nat × List Nat) := (true, [([], []), ([], []), ([0, 1], [0, 1]), ([2], [2]), ([3], [3]), ([3], [3]), ([4, 5, 3, 3], [3, 4, 5]), ([6, 3], [3, 6]), ([3, 7], [3, 7]), ([8, 6], [8]), ([9], [9]), ([9], [9]), ([10, 11, 9], [9, 10, 11]), ([9, 12], [9, 12]), ([13, 9], [13]), ([14], [14]), ([14], [14]), ([15, 16, 14], [14, 15, 16]), ([14, 17], [14, 17]), ([18, 14], [18]), ([19], [19]), ([19], [19]), ([20, 21, 19], [19, 20, 21]), ([19, 22], [19, 22]), ([23, 19], [23]), ([24], [24]), ([24], [24]), ([25, 26, 24], [24, 25, 26]), ([24, 27], [24, 27]), ([28, 24], [28]), ([29], [29]), ([29], [29]), ([30, 31, 29], [29, 30, 31]), ([29, 32], [29, 32]), ([33, 29], [33]), ([34], [34]), ([34], [34]), ([35, 36, 34, 34], [34, 35, 36]), ([37, 34], [34, 37]), ([34, 38], [34, 38]), ([39, 37], [39]), ([40], [40]), ([40], [40]), ([41, 42, 40], [40, 41, 42]), ([40, 43], [40, 43]), ([44, 40], [44]), ([45], [45]), ([46, 45, 45], [45, 46]), ([47], [47]), ([48, 47], [47, 48]), ([47, 49, 45], [45, 47, 49]), ([45, 50], [45, 50]), ([51, 47], [51]), ([52], [52]), ([53, 52, 52], [52, 53]), ([54], [54]), ([55, 54], [54, 55]), ([54, 56, 52], [52, 54, 56]), ([52, 57], [52, 57]), ([58, 54], [58]), ([59], [59]), ([60, 59, 59], [59, 60]), ([59], [59]), ([62, 61, 59], [59, 62]), ([61, 63, 59], [59, 61, 63]), ([59, 64], [59, 64])])
def laws_FnHandsMeet.B12 : List Nat := [0, 0, 3, 7, 15, 15, 63, 127, 255, 511, 1023, 1023, 4095, 8191, 16383, 32767, 32767, 131071, 262143, 524287, 1048575, 1048575, 4194303, 8388607, 16777215, 33554431, 33554431, 134217727, 268435455, 536870911, 1073741823, 1073741823, 4294967295, 8589934591, 17179869183, 34359738367, 34359738367, 137438953471, 274877906943, 549755813887, 1099511627775, 2199023255551, 2199023255551, 8796093022207, 17592186044415, 35184372088831, 70368744177663, 140737488355327, 281474976710655, 562949953421311, 1125899906842623, 2251799813685247, 4503599627370495, 9007199254740991, 18014398509481983, 36028797018963967, 72057594037927935, 144115188075855871, 288230376151711743, 576460752303423487, 1152921504606846975, 2305843009213693951, 1152921504606846975, 9223372036854775807, 18446744073709551615, 36893488147419103231]
theorem laws_FnHandsMeet.tab12 : rtab .any (opsOf Try.f3 12) = laws_FnHandsMeet.T12 := by kernel_rfl
theorem laws_FnHandsMeet.bits12 : waitsOk laws_FnHandsMeet.T12.2 laws_FnHandsMeet.B12 = true := by kernel_rfl
def laws_FnHandsMeet.T15 : Bool × List (List Nat × List Nat) := (true, [([], []), ([0], [0]), ([], []), ([1, 2], [1, 2]), ([3], [3]), ([4], [4]), ([4], [4]), ([6, 4], [4, 6]), ([4], [4]), ([8, 4], [4, 8]), ([7, 9, 4], [4, 7, 9]), ([10, 4, 4], [4, 10]), ([5, 11, 4], [4, 5, 11]), ([4, 12], [4, 12]), ([13, 11], [13]), ([14], [14]), ([15, 14], [14, 15]), ([16, 14], [14, 16]), ([14], [14]), ([17, 18, 14], [14, 17, 18]), ([14, 19], [14, 19]), ([20, 14], [20]), ([21], [21]), ([22, 21, 21], [21, 22]), ([23, 21], [21, 23]), ([21, 24], [21, 24])])
def laws_FnHandsMeet.B15 : List Nat := [0, 1, 0, 7, 15, 31, 31, 95, 31, 287, 991, 2015, 4095, 8191, 16383, 32767, 65535, 131071, 32767, 524287, 1048575, 2097151, 4194303, 8388607, 16777215, 33554431]
theorem laws_FnHandsMeet.tab15 : rtab .any (opsOf Try.f3 15) = laws_FnHandsMeet.T15 := by kernel_rfl
theorem laws_FnHandsMeet.bits15 : waitsOk laws_FnHandsMeet.T15.2 laws_FnHandsMeet.B15 = true := by kernel_rfl
def laws_FnHandsMeet.T25 : Bool × List (List Nat × List Nat) := (true, [([], []), ([0], [0]), ([1], [1]), ([2], [2]), ([2], [2]), ([2], [2]), ([5, 2], [2, 5]), ([2], [2]), ([6, 7, 2], [2, 6, 7]), ([4, 8, 2], [2, 4, 8]), ([9, 2], [2, 9]), ([3, 10, 2], [2, 3, 10]), ([2, 11], [2, 11])])
def laws_FnHandsMeet.B25 : List Nat := [0, 1, 3, 7, 7, 7, 39, 7, 231, 503, 1015, 2047, 4095]
theorem laws_FnHandsMeet.tab25 : rtab .any (opsOf Try.f3 25) = laws_FnHandsMeet.T25 := by kernel_rfl
theorem laws_FnHandsMeet.bits25 : waitsOk laws_FnHandsMeet.T25.2 laws_FnHandsMeet.B25 = true := by kernel_rfl
theorem laws_FnHandsMeet.j0_no {k : Nat} {x0 : List Int} {x1 : List (S25)} {x2 : Bool} {x3 : Int} {x4 : List (S25)} {x5 : Bool} {x7 : Int} {x8 : Int} {x9 : Int} {x10 : Int} {x11 : Int} {x12 : Int} {x13 : Int} {x14 : Int} (h : laws_FnHandsMeet.j0 k x0 x1 x2 x3 x4 x5 true x7 x8 x9 x10 x11 x12 x13 x14 = some true) : False := by
  cases k with
  | zero => simp [laws_FnHandsMeet.j0] at h
  | succ k => rw [laws_FnHandsMeet.j0, if_pos rfl] at h; cases h
theorem laws_FnHandsMeet.j1_no {k : Nat} {x0 : List Int} {x1 : List (S25)} {x2 : Int} {x3 : List (S25)} {x4 : Bool} {x6 : Int} {x7 : Int} {x8 : Int} {x9 : Int} {x10 : Int} {x11 : Int} (h : laws_FnHandsMeet.j1 k x0 x1 x2 x3 x4 true x6 x7 x8 x9 x10 x11 = some true) : False := by
  cases k with
  | zero => simp [laws_FnHandsMeet.j1] at h
  | succ k => rw [laws_FnHandsMeet.j1, if_pos rfl] at h; cases h
theorem laws_FnHandsMeet.j3_no {k : Nat} {x0 : List Int} {x1 : List (S25)} {x2 : Int} {x3 : List (S25)} {x4 : Bool} {x5 : Int} {x6 : List (S25)} {x7 : Int} {x8 : Int} {x10 : Int} {x11 : Int} {x12 : Int} {x13 : Int} {x14 : Int} {x15 : Int} {x16 : Int} {x17 : Int} (h : laws_FnHandsMeet.j3 k x0 x1 x2 x3 x4 x5 x6 x7 x8 true x10 x11 x12 x13 x14 x15 x16 x17 = some true) : False := by
  cases k with
  | zero => simp [laws_FnHandsMeet.j3] at h
  | succ k => rw [laws_FnHandsMeet.j3, if_pos rfl] at h; cases h
theorem laws_FnHandsMeet.j5_no {k : Nat} {x0 : List Int} (h : laws_FnHandsMeet.j5 k x0 true = some true) : False := by
  cases k with
  | zero => simp [laws_FnHandsMeet.j5] at h
  | succ k => rw [laws_FnHandsMeet.j5, if_pos rfl] at h; cases h
theorem laws_FnHandsMeet.j6_no {k : Nat} {x0 : Bool} {x2 : Int} {x3 : Int} {x4 : Int} {x5 : Int} {x6 : Int} {x7 : Int} {x8 : Int} {x9 : Int} {x10 : Int} {x11 : Int} (h : laws_FnHandsMeet.j6 k x0 true x2 x3 x4 x5 x6 x7 x8 x9 x10 x11 = some true) : False := by
  cases k with
  | zero => simp [laws_FnHandsMeet.j6] at h
  | succ k => rw [laws_FnHandsMeet.j6, if_pos rfl] at h; cases h
theorem laws_FnHandsMeet.j7_no {k : Nat} {x0 : List (S25)} {x2 : Int} {x3 : Int} {x4 : Int} {x5 : Int} (h : laws_FnHandsMeet.j7 k x0 true x2 x3 x4 x5 = some true) : False := by
  cases k with
  | zero => simp [laws_FnHandsMeet.j7] at h
  | succ k => rw [laws_FnHandsMeet.j7, if_pos rfl] at h; cases h
theorem zo {w W : World} {g g' : Nat} {o : Obj} (h : Aside0 (w.heap[g]? = some o)) (hg : g' = W.heap.size) (hs : w.heap[g]? = some o → W.heap[g]? = some o := by intro h_; (with_reducible repeat (first | refine blk_drewN ?_ _ | refine blk_drew ?_ | refine blk_alloc ?_ _)); exact h_) : Aside0 (g < g') := ⟨by rw [hg]; exact blk_lt (hs h.out)⟩
/-- The piece of a code that a path leads to (1: the first of two, 2: the second, 0: what lies within). -/
def cutIn : List Nat → Code → Option Code
  | [], c => some c
  | 1 :: p, .seq a _ => cutIn p a
  | 2 :: p, .seq _ b => cutIn p b
  | 1 :: p, .cond _ a _ => cutIn p a
  | 2 :: p, .cond _ _ b => cutIn p b
  | 0 :: p, .block _ c => cutIn p c
  | 0 :: p, .loop c => cutIn p c
  | 0 :: p, .scope c => cutIn p c
  | _, _ => none
def cutAt (f : Func) (p : List Nat) : Option Code := f.body.bind (cutIn p)
theorem cut_open {P : Program} {f : Func} {p : List Nat} {c : Code} {Q : Exit → Act → World → Prop} {K : Act → World → Prop} (h : ∀ a w, Code.wp P ((cutAt f p).getD .skip) Q a w → K a w) (e : cutAt f p = some c) : ∀ a w, Code.wp P c Q a w → K a w := by
  rw [e] at h
  exact h
theorem cut_lit {P : Program} {f : Func} {p : List Nat} {c : Code} {Q : Exit → Act → World → Prop} {a : Act} {w : World} (h : Code.wp P ((cutAt f p).getD .skip) Q a w) (e : cutAt f p = some c) : Code.wp P c Q a w := by
  rw [e] at h
  exact h

end Go.Proofs.Ytoneipoioiokcaa.PFnHandsMeet
