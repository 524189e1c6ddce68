/- A part of the walk of FnHandsAhead: which Lean function each Go function comes to, and that the machine's call does so. Written by a program of this repo (wip/gen/xprint.py). -/
import Derived.Test.YtoneipoioiokcabPFnHandsAheadx0
import Derived.Test.YtoneipoioiokcabPFnHandsAheadx1
import Derived.Test.YtoneipoioiokcabPFnHandsAheadx2
import Derived.Test.YtoneipoioiokcabPFnHandsAheadx3
import Derived.Test.YtoneipoioiokcabPFnHandsAheadx6
import Derived.Test.YtoneipoioiokcabPFnHandsAheadx11
import Derived.Test.YtoneipoioiokcabPFnHandsAheadx14
import Derived.Test.YtoneipoioiokcabPFnHandsAheadx16
import Derived.Test.YtoneipoioiokcabPFnHandsAheadx17
import Derived.Test.YtoneipoioiokcabPFnHandsAheadx18
import Derived.Test.YtoneipoioiokcabPFnHandsAheadx19
import Derived.Test.YtoneipoioiokcabPFnHandsAheadx20
import Derived.Test.YtoneipoioiokcabPFnHandsAheadx22
import Derived.Test.YtoneipoioiokcabPFnHandsAheadx23
namespace Go.Proofs.Ytoneipoioiokcab.PFnHandsAhead
open Go.RowKit Go.Proofs.YtoneipoioiokcabW.PrintWords Go.Proofs.YtoneipoioiokcabW.PrintLast Go.Proofs.YtoneipoioiokcabW.PrintMore
attribute [local go_sem] max2_int min2_int max_two min_two max_three min_three max_four min_four   -- for this text's walks alone
set_option linter.unusedVariables false
set_option linter.unusedSimpArgs false

attribute [local go_sem high] eqA25 eqA27
/-! ### laws_FnHandsAhead: function 3 -/
mutual
def laws_FnHandsAhead.j0 : Nat → List Int → List (S25) → Bool → Bool → Bool → List (S25) → Bool → Bool → Int → Int → Int → Int → Int → Int → Int → Int → Int → Int → Int → Int → Int → Option (Bool)
  | 0, _, _, _, _, _, _, _, _, _, _, _, _, _, _, _, _, _, _, _, _, _ => none
  | k + 1, x1, x8, x9, x13, x17, x20, x21, x163, x536000, x536001, x536002, x537000, x537001, x537002, x538000, x538001, x550000, x550001, x559000, x559001, x559002 => if x163 = true then (some false) else (if x9 = true then ((laws_kAbs.f (wrap64 (x536002 - x537002))).bind fun t574 => (if (x8.length : Int) = t574 then ((laws_kRises.f k x8).bind fun t575 => (laws_FnHandsAhead.j1 k x1 x8 x13 x17 x20 x21 (!t575) x536000 x536001 x536002 x537000 x537001 x537002 x538000 x538001 x550000 x550001 x559000 x559001 x559002)) else (laws_FnHandsAhead.j1 k x1 x8 x13 x17 x20 x21 true x536000 x536001 x536002 x537000 x537001 x537002 x538000 x538001 x550000 x550001 x559000 x559001 x559002))) else (laws_FnHandsAhead.j3 k x1 x13 x17 x20 x21 x536000 x536001 x536002 x537000 x537001 x537002 x538000 x538001 x550000 x550001 x559000 x559001 x559002))
def laws_FnHandsAhead.j3 : Nat → List Int → Bool → Bool → List (S25) → Bool → Int → Int → Int → Int → Int → Int → Int → Int → Int → Int → Int → Int → Int → Option (Bool)
  | 0, _, _, _, _, _, _, _, _, _, _, _, _, _, _, _, _, _, _ => none
  | k + 1, x1, x13, x17, x20, x21, x536000, x536001, x536002, x537000, x537001, x537002, x538000, x538001, x550000, x550001, x559000, x559001, x559002 => if x21 = true then (laws_FnHandsAhead.l1 k x1 x13 x17 x20 (x20.length : Int) 0 x536000 x536001 x536002 x537000 x537001 x537002 x538000 x538001 x550000 x550001 x559000 x559001 x559002) else (laws_FnHandsAhead.j5 k x1 x13 x17 x536000 x536001 x536002 x537000 x537001 x537002 x538000 x538001 x550000 x550001 x559000 x559001 x559002)
def laws_FnHandsAhead.j5 : Nat → List Int → Bool → Bool → Int → Int → Int → Int → Int → Int → Int → Int → Int → Int → Int → Int → Int → Option (Bool)
  | 0, _, _, _, _, _, _, _, _, _, _, _, _, _, _, _, _ => none
  | k + 1, x1, x13, x17, x536000, x536001, x536002, x537000, x537001, x537002, x538000, x538001, x550000, x550001, x559000, x559001, x559002 => if x17 = true then ((impl_HandAt.f k x559000 x559001 x559002 x538000 x538001).bind fun bt592 => (if (bt592.2.2 != x13) = true then (some false) else (if bt592.2.2 = true then (if (!(bt592.1 == x550000) || (!(bt592.2.1 == x550001))) = true then (some false) else (if x559002 = (wrap64 (x536002 - x537002)) then (laws_FnHandsAhead.j6 k x1) else (some false))) else (if x559002 = (wrap64 (x536002 - x537002)) then (laws_FnHandsAhead.j6 k x1) else (some false))))) else (laws_FnHandsAhead.j6 k x1)
def laws_FnHandsAhead.j6 : Nat → List Int → Option (Bool)
  | 0, _ => none
  | k + 1, x1 => (spec_DrawThreeMeet.f k x1).bind fun bt596 => ((impl_ThreeMeet.f k bt596.1 bt596.2.1 bt596.2.2.1 bt596.2.2.2.1 bt596.2.2.2.2.1 bt596.2.2.2.2.2.1 bt596.2.2.2.2.2.2.1 bt596.2.2.2.2.2.2.2.1 bt596.2.2.2.2.2.2.2.2).bind fun bt608 => ((spec_ThreeMeet.f k bt596.1 bt596.2.1 bt596.2.2.1 bt596.2.2.2.1 bt596.2.2.2.2.1 bt596.2.2.2.2.2.1 bt596.2.2.2.2.2.2.1 bt596.2.2.2.2.2.2.2.1 bt596.2.2.2.2.2.2.2.2).bind fun bt612 => (if (bt608.2 != bt612.2) = true then (laws_FnHandsAhead.j7 k x1 bt608.1 bt608.2 true bt596.1 bt596.2.1 bt596.2.2.1 bt596.2.2.2.1 bt596.2.2.2.2.1 bt596.2.2.2.2.2.1 bt596.2.2.2.2.2.2.1 bt596.2.2.2.2.2.2.2.1 bt596.2.2.2.2.2.2.2.2) else ((laws_kTurns.f k bt608.1 bt612.1).bind fun t616 => (laws_FnHandsAhead.j7 k x1 bt608.1 bt608.2 (!t616) bt596.1 bt596.2.1 bt596.2.2.1 bt596.2.2.2.1 bt596.2.2.2.2.1 bt596.2.2.2.2.2.1 bt596.2.2.2.2.2.2.1 bt596.2.2.2.2.2.2.2.1 bt596.2.2.2.2.2.2.2.2)))))
def laws_FnHandsAhead.j7 : Nat → List Int → List (S25) → Bool → Bool → Int → Int → Int → Int → Int → Int → Int → Int → Int → Option (Bool)
  | 0, _, _, _, _, _, _, _, _, _, _, _, _, _ => none
  | k + 1, x1, x39, x40, x294, x606000, x606001, x606002, x607000, x607001, x607002, x608000, x608001, x608002 => if x294 = true then (some false) else (if x40 = true then ((impl_MeetTimes.f k x606000 x606001 x606002 x607000 x607001 x607002).bind fun bt617 => (if bt617.2 = true then (laws_FnHandsAhead.l2 k x1 x39 bt617.1 bt617.1 (bt617.1.length : Int) 0 x606000 x606001 x606002 x608000 x608001 x608002) else (some false))) else (laws_FnHandsAhead.j9 k x1))
def laws_FnHandsAhead.j9 : Nat → List Int → Option (Bool)
  | 0, _ => none
  | k + 1, x1 => (spec_DrawTimesAtPlace.f k x1).bind fun bt629 => ((impl_TimesAtPlace.f k bt629.1 bt629.2.1 bt629.2.2.1 bt629.2.2.2.1 bt629.2.2.2.2).bind fun bt636 => ((spec_TimesAtPlace.f k bt629.1 bt629.2.1 bt629.2.2.1 bt629.2.2.2.1 bt629.2.2.2.2).bind fun bt640 => ((impl_HandAt.f k bt629.1 bt629.2.1 bt629.2.2.1 bt629.2.2.2.1 bt629.2.2.2.2).bind fun bt644 => ((spec_HandAt.f k bt629.1 bt629.2.1 bt629.2.2.1 bt629.2.2.2.1 bt629.2.2.2.2).bind fun bt648 => (if (bt636.2 != bt640.2) = true then (laws_FnHandsAhead.j10 k bt636.1 bt636.2 true bt629.1 bt629.2.1 bt629.2.2.1 bt629.2.2.2.1 bt629.2.2.2.2) else ((laws_kTurns.f k bt636.1 bt640.1).bind fun t652 => (if t652 = true then (if (bt644.2.2 != bt648.2.2) = true then (laws_FnHandsAhead.j10 k bt636.1 bt636.2 true bt629.1 bt629.2.1 bt629.2.2.1 bt629.2.2.2.1 bt629.2.2.2.2) else (laws_FnHandsAhead.j10 k bt636.1 bt636.2 (!(bt644.1 == bt648.1) || (!(bt644.2.1 == bt648.2.1))) bt629.1 bt629.2.1 bt629.2.2.1 bt629.2.2.2.1 bt629.2.2.2.2)) else (laws_FnHandsAhead.j10 k bt636.1 bt636.2 true bt629.1 bt629.2.1 bt629.2.2.1 bt629.2.2.2.1 bt629.2.2.2.2))))))))
def laws_FnHandsAhead.j10 : Nat → List (S25) → Bool → Bool → Int → Int → Int → Int → Int → Option (Bool)
  | 0, _, _, _, _, _, _, _, _ => none
  | k + 1, x51, x52, x385, x635000, x635001, x635002, x636000, x636001 => if x385 = true then (some false) else (if x52 = true then ((laws_kAbs.f x635002).bind fun t653 => (if (x51.length : Int) = t653 then ((laws_kRises.f k x51).bind fun t654 => (laws_FnHandsAhead.j11 k x51 (!t654) x635000 x635001 x635002 x636000 x636001)) else (laws_FnHandsAhead.j11 k x51 true x635000 x635001 x635002 x636000 x636001))) else (some true))
def laws_FnHandsAhead.j11 : Nat → List (S25) → Bool → Int → Int → Int → Int → Int → Option (Bool)
  | 0, _, _, _, _, _, _, _ => none
  | k + 1, x51, x397, x635000, x635001, x635002, x636000, x636001 => if x397 = true then (some false) else (laws_FnHandsAhead.l3 k x51 (x51.length : Int) 0 x635000 x635001 x635002 x636000 x636001)
def laws_FnHandsAhead.l3 : Nat → List (S25) → Int → Int → Int → Int → Int → Int → Int → Option (Bool)
  | 0, _, _, _, _, _, _, _, _ => none
  | k + 1, x398, x399, x400, x635000, x635001, x635002, x636000, x636001 => if x400 < x399 then (if 0 ≤ x400 then (if x400 < (x398.length : Int) then ((impl_HandAt.f k x635000 x635001 x635002 ((rd_T25 x398 x400).f0) ((rd_T25 x398 x400).f1)).bind fun bt657 => (if bt657.2.2 = true then (if (!(bt657.1 == x636000) || (!(bt657.2.1 == x636001))) = true then (some false) else (laws_FnHandsAhead.l3 k x398 x399 (wrap64 (x400 + 1)) x635000 x635001 x635002 x636000 x636001)) else (some false))) else (none)) else (none)) else (some true)
def laws_FnHandsAhead.l2 : Nat → List Int → List (S25) → List (S25) → List (S25) → Int → Int → Int → Int → Int → Int → Int → Int → Option (Bool)
  | 0, _, _, _, _, _, _, _, _, _, _, _, _ => none
  | k + 1, x1, x39, x43, x304, x305, x306, x606000, x606001, x606002, x608000, x608001, x608002 => if x306 < x305 then (if 0 ≤ x306 then (if x306 < (x304.length : Int) then ((impl_AheadAt.f k x606000 x606001 x606002 x608000 x608001 x608002 ((rd_T25 x304 x306).f0) ((rd_T25 x304 x306).f1)).bind fun bt624 => ((laws_kIn.f k x39 ((rd_T25 x304 x306).f0) ((rd_T25 x304 x306).f1)).bind fun t628 => (if bt624.2.2 = true then (if (t628 != (bt624.1 == 0)) = true then (some false) else (laws_FnHandsAhead.l2 k x1 x39 x43 x304 x305 (wrap64 (x306 + 1)) x606000 x606001 x606002 x608000 x608001 x608002)) else (if (t628 != false) = true then (some false) else (laws_FnHandsAhead.l2 k x1 x39 x43 x304 x305 (wrap64 (x306 + 1)) x606000 x606001 x606002 x608000 x608001 x608002))))) else (none)) else (none)) else ((laws_kRises.f k x39).bind fun t621 => (if t621 = true then (if (x39.length : Int) > (x43.length : Int) then (some false) else (laws_FnHandsAhead.j9 k x1)) else (some false)))
def laws_FnHandsAhead.l1 : Nat → List Int → Bool → Bool → List (S25) → Int → Int → Int → Int → Int → Int → Int → Int → Int → Int → Int → Int → Int → Int → Int → Option (Bool)
  | 0, _, _, _, _, _, _, _, _, _, _, _, _, _, _, _, _, _, _, _ => none
  | k + 1, x1, x13, x17, x201, x202, x203, x536000, x536001, x536002, x537000, x537001, x537002, x538000, x538001, x550000, x550001, x559000, x559001, x559002 => if x203 < x202 then (if 0 ≤ x203 then (if x203 < (x201.length : Int) then ((impl_AheadAt.f k x536000 x536001 x536002 x537000 x537001 x537002 ((rd_T25 x201 x203).f0) ((rd_T25 x201 x203).f1)).bind fun bt584 => ((impl_AheadAt.f k x537000 x537001 x537002 x536000 x536001 x536002 ((rd_T25 x201 x203).f0) ((rd_T25 x201 x203).f1)).bind fun bt588 => (if bt584.2.2 = true then (if (!(bt584.1 == 1) || (!(bt584.2.1 == 2))) = true then (some false) else (if bt588.2.2 = true then (if (!(bt588.1 == bt584.1) || (!(bt588.2.1 == bt584.2.1))) = true then (some false) else (laws_FnHandsAhead.l1 k x1 x13 x17 x201 x202 (wrap64 (x203 + 1)) x536000 x536001 x536002 x537000 x537001 x537002 x538000 x538001 x550000 x550001 x559000 x559001 x559002)) else (some false))) else (some false)))) else (none)) else (none)) else (laws_FnHandsAhead.j5 k x1 x13 x17 x536000 x536001 x536002 x537000 x537001 x537002 x538000 x538001 x550000 x550001 x559000 x559001 x559002)
def laws_FnHandsAhead.j1 : Nat → List Int → List (S25) → Bool → Bool → List (S25) → Bool → Bool → Int → Int → Int → Int → Int → Int → Int → Int → Int → Int → Int → Int → Int → Option (Bool)
  | 0, _, _, _, _, _, _, _, _, _, _, _, _, _, _, _, _, _, _, _, _ => none
  | k + 1, x1, x8, x13, x17, x20, x21, x178, x536000, x536001, x536002, x537000, x537001, x537002, x538000, x538001, x550000, x550001, x559000, x559001, x559002 => if x178 = true then (some false) else (laws_FnHandsAhead.l0 k x1 x13 x17 x20 x21 x8 (x8.length : Int) 0 x536000 x536001 x536002 x537000 x537001 x537002 x538000 x538001 x550000 x550001 x559000 x559001 x559002)
def laws_FnHandsAhead.l0 : Nat → List Int → Bool → Bool → List (S25) → Bool → List (S25) → Int → Int → Int → Int → Int → Int → Int → Int → Int → Int → Int → Int → Int → Int → Int → Option (Bool)
  | 0, _, _, _, _, _, _, _, _, _, _, _, _, _, _, _, _, _, _, _, _, _ => none
  | k + 1, x1, x13, x17, x20, x21, x179, x180, x181, x536000, x536001, x536002, x537000, x537001, x537002, x538000, x538001, x550000, x550001, x559000, x559001, x559002 => if x181 < x180 then (if 0 ≤ x181 then (if x181 < (x179.length : Int) then ((impl_AheadAt.f k x536000 x536001 x536002 x537000 x537001 x537002 ((rd_T25 x179 x181).f0) ((rd_T25 x179 x181).f1)).bind fun bt578 => (if bt578.2.2 = true then (if (!(bt578.1 == x538000) || (!(bt578.2.1 == x538001))) = true then (some false) else (laws_FnHandsAhead.l0 k x1 x13 x17 x20 x21 x179 x180 (wrap64 (x181 + 1)) x536000 x536001 x536002 x537000 x537001 x537002 x538000 x538001 x550000 x550001 x559000 x559001 x559002)) else (some false))) else (none)) else (none)) else (laws_FnHandsAhead.j3 k x1 x13 x17 x20 x21 x536000 x536001 x536002 x537000 x537001 x537002 x538000 x538001 x550000 x550001 x559000 x559001 x559002)
end
def laws_FnHandsAhead.f (k : Nat) (l0 : List Int) (l1 : List Int) : Option (Bool) := (laws_big.f l0 l1).bind fun t526 => (if t526 = true then (some true) else ((spec_DrawAheadTimes.f k l0).bind fun bt527 => ((impl_AheadTimes.f k bt527.1 bt527.2.1 bt527.2.2.1 bt527.2.2.2.1 bt527.2.2.2.2.1 bt527.2.2.2.2.2.1 bt527.2.2.2.2.2.2.1 bt527.2.2.2.2.2.2.2).bind fun bt538 => ((spec_AheadTimes.f k bt527.1 bt527.2.1 bt527.2.2.1 bt527.2.2.2.1 bt527.2.2.2.2.1 bt527.2.2.2.2.2.1 bt527.2.2.2.2.2.2.1 bt527.2.2.2.2.2.2.2).bind fun bt542 => ((impl_AheadAt.f k bt527.1 bt527.2.1 bt527.2.2.1 bt527.2.2.2.1 bt527.2.2.2.2.1 bt527.2.2.2.2.2.1 bt527.2.2.2.2.2.2.1 bt527.2.2.2.2.2.2.2).bind fun bt546 => ((spec_AheadAt.f k bt527.1 bt527.2.1 bt527.2.2.1 bt527.2.2.2.1 bt527.2.2.2.2.1 bt527.2.2.2.2.2.1 bt527.2.2.2.2.2.2.1 bt527.2.2.2.2.2.2.2).bind fun bt550 => ((impl_RelativeHand.f k bt527.1 bt527.2.1 bt527.2.2.1 bt527.2.2.2.1 bt527.2.2.2.2.1 bt527.2.2.2.2.2.1).bind fun bt554 => ((spec_RelativeHand.f k bt527.1 bt527.2.1 bt527.2.2.1 bt527.2.2.2.1 bt527.2.2.2.2.1 bt527.2.2.2.2.2.1).bind fun bt559 => ((impl_OppositeTimes.f k bt527.1 bt527.2.1 bt527.2.2.1 bt527.2.2.2.1 bt527.2.2.2.2.1 bt527.2.2.2.2.2.1).bind fun bt564 => ((spec_OppositeTimes.f k bt527.1 bt527.2.1 bt527.2.2.1 bt527.2.2.2.1 bt527.2.2.2.2.1 bt527.2.2.2.2.2.1).bind fun bt568 => (if (bt538.2 != bt542.2) = true then (laws_FnHandsAhead.j0 k l1 bt538.1 bt538.2 bt546.2.2 bt554.2.2.2 bt564.1 bt564.2 true bt527.1 bt527.2.1 bt527.2.2.1 bt527.2.2.2.1 bt527.2.2.2.2.1 bt527.2.2.2.2.2.1 bt527.2.2.2.2.2.2.1 bt527.2.2.2.2.2.2.2 bt546.1 bt546.2.1 bt554.1 bt554.2.1 bt554.2.2.1) else ((laws_kTurns.f k bt538.1 bt542.1).bind fun t572 => (if t572 = true then (if (bt546.2.2 != bt550.2.2) = true then (laws_FnHandsAhead.j0 k l1 bt538.1 bt538.2 bt546.2.2 bt554.2.2.2 bt564.1 bt564.2 true bt527.1 bt527.2.1 bt527.2.2.1 bt527.2.2.2.1 bt527.2.2.2.2.1 bt527.2.2.2.2.2.1 bt527.2.2.2.2.2.2.1 bt527.2.2.2.2.2.2.2 bt546.1 bt546.2.1 bt554.1 bt554.2.1 bt554.2.2.1) else (if (!(bt546.1 == bt550.1) || (!(bt546.2.1 == bt550.2.1))) = true then (laws_FnHandsAhead.j0 k l1 bt538.1 bt538.2 bt546.2.2 bt554.2.2.2 bt564.1 bt564.2 true bt527.1 bt527.2.1 bt527.2.2.1 bt527.2.2.2.1 bt527.2.2.2.2.1 bt527.2.2.2.2.2.1 bt527.2.2.2.2.2.2.1 bt527.2.2.2.2.2.2.2 bt546.1 bt546.2.1 bt554.1 bt554.2.1 bt554.2.2.1) else (if (bt554.2.2.2 != bt559.2.2.2) = true then (laws_FnHandsAhead.j0 k l1 bt538.1 bt538.2 bt546.2.2 bt554.2.2.2 bt564.1 bt564.2 true bt527.1 bt527.2.1 bt527.2.2.1 bt527.2.2.2.1 bt527.2.2.2.2.1 bt527.2.2.2.2.2.1 bt527.2.2.2.2.2.2.1 bt527.2.2.2.2.2.2.2 bt546.1 bt546.2.1 bt554.1 bt554.2.1 bt554.2.2.1) else (if ((!(bt554.1 == bt559.1) || (!(bt554.2.1 == bt559.2.1))) || (!(bt554.2.2.1 == bt559.2.2.1))) = true then (laws_FnHandsAhead.j0 k l1 bt538.1 bt538.2 bt546.2.2 bt554.2.2.2 bt564.1 bt564.2 true bt527.1 bt527.2.1 bt527.2.2.1 bt527.2.2.2.1 bt527.2.2.2.2.1 bt527.2.2.2.2.2.1 bt527.2.2.2.2.2.2.1 bt527.2.2.2.2.2.2.2 bt546.1 bt546.2.1 bt554.1 bt554.2.1 bt554.2.2.1) else (if (bt564.2 != bt568.2) = true then (laws_FnHandsAhead.j0 k l1 bt538.1 bt538.2 bt546.2.2 bt554.2.2.2 bt564.1 bt564.2 true bt527.1 bt527.2.1 bt527.2.2.1 bt527.2.2.2.1 bt527.2.2.2.2.1 bt527.2.2.2.2.2.1 bt527.2.2.2.2.2.2.1 bt527.2.2.2.2.2.2.2 bt546.1 bt546.2.1 bt554.1 bt554.2.1 bt554.2.2.1) else ((laws_kTurns.f k bt564.1 bt568.1).bind fun t573 => (laws_FnHandsAhead.j0 k l1 bt538.1 bt538.2 bt546.2.2 bt554.2.2.2 bt564.1 bt564.2 (!t573) bt527.1 bt527.2.1 bt527.2.2.1 bt527.2.2.2.1 bt527.2.2.2.2.1 bt527.2.2.2.2.2.1 bt527.2.2.2.2.2.2.1 bt527.2.2.2.2.2.2.2 bt546.1 bt546.2.1 bt554.1 bt554.2.1 bt554.2.2.1))))))) else (laws_FnHandsAhead.j0 k l1 bt538.1 bt538.2 bt546.2.2 bt554.2.2.2 bt564.1 bt564.2 true bt527.1 bt527.2.1 bt527.2.2.1 bt527.2.2.2.1 bt527.2.2.2.2.1 bt527.2.2.2.2.2.1 bt527.2.2.2.2.2.2.1 bt527.2.2.2.2.2.2.2 bt546.1 bt546.2.1 bt554.1 bt554.2.1 bt554.2.2.1))))))))))))))
theorem laws_FnHandsAhead.j0_no {k : Nat} {x0 : List Int} {x1 : List (S25)} {x2 : Bool} {x3 : Bool} {x4 : Bool} {x5 : List (S25)} {x6 : Bool} {x8 : Int} {x9 : Int} {x10 : Int} {x11 : Int} {x12 : Int} {x13 : Int} {x14 : Int} {x15 : Int} {x16 : Int} {x17 : Int} {x18 : Int} {x19 : Int} {x20 : Int} (h : laws_FnHandsAhead.j0 k x0 x1 x2 x3 x4 x5 x6 true x8 x9 x10 x11 x12 x13 x14 x15 x16 x17 x18 x19 x20 = some true) : False := by
  cases k with
  | zero => simp [laws_FnHandsAhead.j0] at h
  | succ k => rw [laws_FnHandsAhead.j0, if_pos rfl] at h; cases h
theorem laws_FnHandsAhead.j1_no {k : Nat} {x0 : List Int} {x1 : List (S25)} {x2 : Bool} {x3 : Bool} {x4 : List (S25)} {x5 : Bool} {x7 : Int} {x8 : Int} {x9 : Int} {x10 : Int} {x11 : Int} {x12 : Int} {x13 : Int} {x14 : Int} {x15 : Int} {x16 : Int} {x17 : Int} {x18 : Int} {x19 : Int} (h : laws_FnHandsAhead.j1 k x0 x1 x2 x3 x4 x5 true x7 x8 x9 x10 x11 x12 x13 x14 x15 x16 x17 x18 x19 = some true) : False := by
  cases k with
  | zero => simp [laws_FnHandsAhead.j1] at h
  | succ k => rw [laws_FnHandsAhead.j1, if_pos rfl] at h; cases h
theorem laws_FnHandsAhead.j10_no {k : Nat} {x0 : List (S25)} {x1 : Bool} {x3 : Int} {x4 : Int} {x5 : Int} {x6 : Int} {x7 : Int} (h : laws_FnHandsAhead.j10 k x0 x1 true x3 x4 x5 x6 x7 = some true) : False := by
  cases k with
  | zero => simp [laws_FnHandsAhead.j10] at h
  | succ k => rw [laws_FnHandsAhead.j10, if_pos rfl] at h; cases h
theorem laws_FnHandsAhead.j11_no {k : Nat} {x0 : List (S25)} {x2 : Int} {x3 : Int} {x4 : Int} {x5 : Int} {x6 : Int} (h : laws_FnHandsAhead.j11 k x0 true x2 x3 x4 x5 x6 = some true) : False := by
  cases k with
  | zero => simp [laws_FnHandsAhead.j11] at h
  | succ k => rw [laws_FnHandsAhead.j11, if_pos rfl] at h; cases h
theorem laws_FnHandsAhead.j7_no {k : Nat} {x0 : List Int} {x1 : List (S25)} {x2 : Bool} {x4 : Int} {x5 : Int} {x6 : Int} {x7 : Int} {x8 : Int} {x9 : Int} {x10 : Int} {x11 : Int} {x12 : Int} (h : laws_FnHandsAhead.j7 k x0 x1 x2 true x4 x5 x6 x7 x8 x9 x10 x11 x12 = some true) : False := by
  cases k with
  | zero => simp [laws_FnHandsAhead.j7] at h
  | succ k => rw [laws_FnHandsAhead.j7, if_pos rfl] at h; cases h
theorem zo {w W : World} {g g' : Nat} {o : Obj} (h : Aside0 (w.heap[g]? = some o)) (hg : g' = W.heap.size) (hs : w.heap[g]? = some o → W.heap[g]? = some o := by intro h_; (with_reducible repeat (first | refine blk_drewN ?_ _ | refine blk_drew ?_ | refine blk_alloc ?_ _)); exact h_) : Aside0 (g < g') := ⟨by rw [hg]; exact blk_lt (hs h.out)⟩
/-- The piece of a code that a path leads to (1: the first of two, 2: the second, 0: what lies within). -/
def cutIn : List Nat → Code → Option Code
  | [], c => some c
  | 1 :: p, .seq a _ => cutIn p a
  | 2 :: p, .seq _ b => cutIn p b
  | 1 :: p, .cond _ a _ => cutIn p a
  | 2 :: p, .cond _ _ b => cutIn p b
  | 0 :: p, .block _ c => cutIn p c
  | 0 :: p, .loop c => cutIn p c
  | 0 :: p, .scope c => cutIn p c
  | _, _ => none
def cutAt (f : Func) (p : List Nat) : Option Code := f.body.bind (cutIn p)
theorem cut_open {P : Program} {f : Func} {p : List Nat} {c : Code} {Q : Exit → Act → World → Prop} {K : Act → World → Prop} (h : ∀ a w, Code.wp P ((cutAt f p).getD .skip) Q a w → K a w) (e : cutAt f p = some c) : ∀ a w, Code.wp P c Q a w → K a w := by
  rw [e] at h
  exact h
theorem cut_lit {P : Program} {f : Func} {p : List Nat} {c : Code} {Q : Exit → Act → World → Prop} {a : Act} {w : World} (h : Code.wp P ((cutAt f p).getD .skip) Q a w) (e : cutAt f p = some c) : Code.wp P c Q a w := by
  rw [e] at h
  exact h

end Go.Proofs.Ytoneipoioiokcab.PFnHandsAhead
