/- A part of the walk of FnHandsAhead: which Lean function each Go function comes to, and that the machine's call does so. Written by a program of this repo (wip/gen/xprint.py). -/
import Derived.Test.YtoneipoioiokcabPFnHandsAheadx24
import Derived.Test.YtoneipoioiokcabPFnHandsAheadx25
import Derived.Test.YtoneipoioiokcabPFnHandsAheadx26
namespace Go.Proofs.Ytoneipoioiokcab.PFnHandsAhead
open Go.RowKit Go.Proofs.YtoneipoioiokcabW.PrintWords Go.Proofs.YtoneipoioiokcabW.PrintLast Go.Proofs.YtoneipoioiokcabW.PrintMore
attribute [local go_sem] max2_int min2_int max_two min_two max_three min_three max_four min_four   -- for this text's walks alone
set_option linter.unusedVariables false
set_option linter.unusedSimpArgs false
attribute [local go_sem high] eqA25 eqA27
set_option maxHeartbeats 8000000 in
set_option maxRecDepth 100000 in
theorem laws_FnHandsAhead.rest5 {s63 s64 s65 s66 s67 s68 s69 s70 s71 s72 s73 s74 s75 s76 s77 s78 s79 s80 s81 s82 s83 s84 s85 s86 s87 s88 s89 s90 s91 s92 s93 s94 s95 s96 s97 s98 s99 s100 s101 s102 s103 s104 s105 s106 s107 s108 s109 s110 s111 s112 s113 s114 s115 s116 s117 s118 s119 s120 s121 s122 s123 s124 s125 s126 s127 s128 s129 s130 s131 s132 s133 s134 s135 s136 s137 s138 s139 s140 s141 s142 s143 s144 s145 s146 s147 s148 s149 s150 s151 s152 s153 s154 s155 s156 s157 s158 s159 s160 s161 s162 s163 s164 s165 s166 s167 s168 s169 s170 s171 s172 s173 s174 s175 s176 s177 s178 s179 s180 s181 s182 s183 s184 s185 s186 s187 s188 s189 s190 s191 s192 s193 s194 s195 s196 s197 s198 s199 s200 s201 s202 s203 s204 s205 s206 s207 s208 s209 s210 s211 s212 s213 s214 s215 s216 s217 s218 s219 s220 s221 s222 s223 s224 s225 s226 s227 s228 s229 s230 s231 s232 s233 s234 s235 s236 s237 s238 s239 s240 s241 s242 s243 s244 s245 s246 s247 s248 s249 s250 s251 s252 s253 s254 s255 s256 s257 s258 s259 s260 s261 s262 s263 s264 s265 s266 s267 s268 s269 s270 s271 s272 s273 s274 s275 s276 s277 s278 s279 s280 s281 s282 s283 s284 s285 s286 s287 s288 s289 s290 s291 s292 s293 s295 s296 s297 s298 s299 s300 s301 s302 s303 s304 s305 s306 s307 s308 s309 s310 s311 s312 s313 s314 s315 s316 s317 s318 s319 s320 s321 s322 s323 s324 s325 s326 s327 s328 s329 s330 s331 s332 s333 s334 s335 s336 s337 s338 s339 s340 s341 s342 s343 s344 s345 s346 s347 s348 s349 s350 s351 s352 s353 s354 s355 s356 s357 s358 s359 s360 s361 s362 s363 s364 s365 s366 s367 s368 s369 s370 s371 s372 s373 s374 s375 s376 s377 s378 s379 s380 s381 s382 s383 s384 s385 s386 s387 s388 s389 s390 s391 s392 s393 s394 s395 s396 s397 s398 s399 s400 s401 s402 s403 s404 s405 s406 s407 s408 s409 s410 s411 s412 s413 s414 s415 s416 s417 : Value} {k : Nat} {A0 : Option Addr} {c0 : Nat} {l0 : List Int} {A1 : Option Addr} {c1 : Nat} {l1 : List Int} {w : World} {t527 t528 t529 t530 t531 t532 t533 t534 : Int} {t538 : List S25} {t541 : Bool} {t542 : List S25} {t545 : Bool} {t546 t547 : Int} {t548 : Bool} {t550 t551 : Int} {t552 : Bool} {t554 t555 t556 : Int} {t557 : Bool} {t559 t560 t561 : Int} {t562 : Bool} {t564 : List S25} {t567 : Bool} {t568 : List S25} {t571 : Bool} {gb535 gb536 gb537 : Nat} {v539 v543 : Value} {gb549 gb553 gb558 gb563 : Nat} {v565 v569 : Value} {kj13 : Nat} {u25 u26 u27 : Value} {kj193 : Nat} {u29 u30 u31 u32 u33 : Value} {kj273 : Nat} {u4 u34 u35 : Value} {kj334 : Nat} {t596 t597 t598 t599 t600 t601 t602 t603 t604 : Int} {t608 : List S25} {t611 : Bool} {t612 : List S25} {t615 : Bool} {gb605 gb606 gb607 : Nat} {v609 v613 : Value} {wc : World} {kq : Nat} {x294_414 : Bool} (HR0 : Aside0 ((Kd.int IntKind.u8).C w A0 l0.length l0)) (HC0 : Aside0 (l0.length ≤ c0)) (HR1 : Aside0 ((Kd.int IntKind.u8).C w A1 l1.length l1)) (HC1 : Aside0 (l1.length ≤ c1)) (A3 : Aside0 (laws_big.f l0 l1 = some false)) (A5 : Aside0 (spec_DrawAheadTimes.f k l0 = some (t527, t528, t529, t530, t531, t532, t533, t534))) (A6 : Aside0 (impl_AheadTimes.f k t527 t528 t529 t530 t531 t532 t533 t534 = some (t538, t541))) (A7 : Aside0 (spec_AheadTimes.f k t527 t528 t529 t530 t531 t532 t533 t534 = some (t542, t545))) (A8 : Aside0 (impl_AheadAt.f k t527 t528 t529 t530 t531 t532 t533 t534 = some (t546, t547, t548))) (A9 : Aside0 (spec_AheadAt.f k t527 t528 t529 t530 t531 t532 t533 t534 = some (t550, t551, t552))) (A10 : Aside0 (impl_RelativeHand.f k t527 t528 t529 t530 t531 t532 = some (t554, t555, t556, t557))) (A11 : Aside0 (spec_RelativeHand.f k t527 t528 t529 t530 t531 t532 = some (t559, t560, t561, t562))) (A12 : Aside0 (impl_OppositeTimes.f k t527 t528 t529 t530 t531 t532 = some (t564, t567))) (A13 : Aside0 (spec_OppositeTimes.f k t527 t528 t529 t530 t531 t532 = some (t568, t571))) (GW535 : Aside0 (w.heap.size ≤ gb535)) (GE535 : Aside0 (w.heap.size ≤ gb535)) (GW536 : Aside0 (w.heap.size ≤ gb536)) (GE536 : Aside0 (w.heap.size ≤ gb536)) (NB535_536 : Aside0 (gb535 ≠ gb536)) (LT535_536 : Aside0 (gb535 < gb536)) (NB536_535 : Aside0 (gb536 ≠ gb535)) (GW537 : Aside0 (w.heap.size ≤ gb537)) (GE537 : Aside0 (w.heap.size ≤ gb537)) (NB535_537 : Aside0 (gb535 ≠ gb537)) (LT535_537 : Aside0 (gb535 < gb537)) (NB537_535 : Aside0 (gb537 ≠ gb535)) (NB536_537 : Aside0 (gb536 ≠ gb537)) (LT536_537 : Aside0 (gb536 < gb537)) (NB537_536 : Aside0 (gb537 ≠ gb536)) (GW549 : Aside0 (w.heap.size ≤ gb549)) (GE549 : Aside0 (w.heap.size ≤ gb549)) (NB535_549 : Aside0 (gb535 ≠ gb549)) (LT535_549 : Aside0 (gb535 < gb549)) (NB549_535 : Aside0 (gb549 ≠ gb535)) (NB536_549 : Aside0 (gb536 ≠ gb549)) (LT536_549 : Aside0 (gb536 < gb549)) (NB549_536 : Aside0 (gb549 ≠ gb536)) (NB537_549 : Aside0 (gb537 ≠ gb549)) (LT537_549 : Aside0 (gb537 < gb549)) (NB549_537 : Aside0 (gb549 ≠ gb537)) (GW553 : Aside0 (w.heap.size ≤ gb553)) (GE553 : Aside0 (w.heap.size ≤ gb553)) (NB535_553 : Aside0 (gb535 ≠ gb553)) (LT535_553 : Aside0 (gb535 < gb553)) (NB553_535 : Aside0 (gb553 ≠ gb535)) (NB536_553 : Aside0 (gb536 ≠ gb553)) (LT536_553 : Aside0 (gb536 < gb553)) (NB553_536 : Aside0 (gb553 ≠ gb536)) (NB537_553 : Aside0 (gb537 ≠ gb553)) (LT537_553 : Aside0 (gb537 < gb553)) (NB553_537 : Aside0 (gb553 ≠ gb537)) (NB549_553 : Aside0 (gb549 ≠ gb553)) (LT549_553 : Aside0 (gb549 < gb553)) (NB553_549 : Aside0 (gb553 ≠ gb549)) (GW558 : Aside0 (w.heap.size ≤ gb558)) (GE558 : Aside0 (w.heap.size ≤ gb558)) (NB535_558 : Aside0 (gb535 ≠ gb558)) (LT535_558 : Aside0 (gb535 < gb558)) (NB558_535 : Aside0 (gb558 ≠ gb535)) (NB536_558 : Aside0 (gb536 ≠ gb558)) (LT536_558 : Aside0 (gb536 < gb558)) (NB558_536 : Aside0 (gb558 ≠ gb536)) (NB537_558 : Aside0 (gb537 ≠ gb558)) (LT537_558 : Aside0 (gb537 < gb558)) (NB558_537 : Aside0 (gb558 ≠ gb537)) (NB549_558 : Aside0 (gb549 ≠ gb558)) (LT549_558 : Aside0 (gb549 < gb558)) (NB558_549 : Aside0 (gb558 ≠ gb549)) (NB553_558 : Aside0 (gb553 ≠ gb558)) (LT553_558 : Aside0 (gb553 < gb558)) (NB558_553 : Aside0 (gb558 ≠ gb553)) (GW563 : Aside0 (w.heap.size ≤ gb563)) (GE563 : Aside0 (w.heap.size ≤ gb563)) (NB535_563 : Aside0 (gb535 ≠ gb563)) (LT535_563 : Aside0 (gb535 < gb563)) (NB563_535 : Aside0 (gb563 ≠ gb535)) (NB536_563 : Aside0 (gb536 ≠ gb563)) (LT536_563 : Aside0 (gb536 < gb563)) (NB563_536 : Aside0 (gb563 ≠ gb536)) (NB537_563 : Aside0 (gb537 ≠ gb563)) (LT537_563 : Aside0 (gb537 < gb563)) (NB563_537 : Aside0 (gb563 ≠ gb537)) (NB549_563 : Aside0 (gb549 ≠ gb563)) (LT549_563 : Aside0 (gb549 < gb563)) (NB563_549 : Aside0 (gb563 ≠ gb549)) (NB553_563 : Aside0 (gb553 ≠ gb563)) (LT553_563 : Aside0 (gb553 < gb563)) (NB563_553 : Aside0 (gb563 ≠ gb553)) (NB558_563 : Aside0 (gb558 ≠ gb563)) (LT558_563 : Aside0 (gb558 < gb563)) (NB563_558 : Aside0 (gb563 ≠ gb558)) (HJ13 : Aside0 (kj13 + 1 ≤ k)) (HJ193 : Aside0 (kj193 + 1 ≤ kj13)) (HJ273 : Aside0 (kj273 + 1 ≤ kj193)) (HJ334 : Aside0 (kj334 + 1 ≤ kj273)) (A412 : Aside0 (spec_DrawThreeMeet.f kj334 l1 = some (t596, t597, t598, t599, t600, t601, t602, t603, t604))) (A413 : Aside0 (impl_ThreeMeet.f kj334 t596 t597 t598 t599 t600 t601 t602 t603 t604 = some (t608, t611))) (A414 : Aside0 (spec_ThreeMeet.f kj334 t596 t597 t598 t599 t600 t601 t602 t603 t604 = some (t612, t615))) (GW605 : Aside0 (w.heap.size ≤ gb605)) (GE605 : Aside0 (w.heap.size ≤ gb605)) (NB537_605 : Aside0 (gb537 ≠ gb605)) (LT537_605 : Aside0 (gb537 < gb605)) (NB605_537 : Aside0 (gb605 ≠ gb537)) (NB549_605 : Aside0 (gb549 ≠ gb605)) (LT549_605 : Aside0 (gb549 < gb605)) (NB605_549 : Aside0 (gb605 ≠ gb549)) (NB553_605 : Aside0 (gb553 ≠ gb605)) (LT553_605 : Aside0 (gb553 < gb605)) (NB605_553 : Aside0 (gb605 ≠ gb553)) (GW606 : Aside0 (w.heap.size ≤ gb606)) (GE606 : Aside0 (w.heap.size ≤ gb606)) (NB537_606 : Aside0 (gb537 ≠ gb606)) (LT537_606 : Aside0 (gb537 < gb606)) (NB606_537 : Aside0 (gb606 ≠ gb537)) (NB549_606 : Aside0 (gb549 ≠ gb606)) (LT549_606 : Aside0 (gb549 < gb606)) (NB606_549 : Aside0 (gb606 ≠ gb549)) (NB553_606 : Aside0 (gb553 ≠ gb606)) (LT553_606 : Aside0 (gb553 < gb606)) (NB606_553 : Aside0 (gb606 ≠ gb553)) (NB605_606 : Aside0 (gb605 ≠ gb606)) (LT605_606 : Aside0 (gb605 < gb606)) (NB606_605 : Aside0 (gb606 ≠ gb605)) (GW607 : Aside0 (w.heap.size ≤ gb607)) (GE607 : Aside0 (w.heap.size ≤ gb607)) (NB537_607 : Aside0 (gb537 ≠ gb607)) (LT537_607 : Aside0 (gb537 < gb607)) (NB607_537 : Aside0 (gb607 ≠ gb537)) (NB549_607 : Aside0 (gb549 ≠ gb607)) (LT549_607 : Aside0 (gb549 < gb607)) (NB607_549 : Aside0 (gb607 ≠ gb549)) (NB553_607 : Aside0 (gb553 ≠ gb607)) (LT553_607 : Aside0 (gb553 < gb607)) (NB607_553 : Aside0 (gb607 ≠ gb553)) (NB605_607 : Aside0 (gb605 ≠ gb607)) (LT605_607 : Aside0 (gb605 < gb607)) (NB607_605 : Aside0 (gb607 ≠ gb605)) (NB606_607 : Aside0 (gb606 ≠ gb607)) (LT606_607 : Aside0 (gb606 < gb607)) (NB607_606 : Aside0 (gb607 ≠ gb606)) (HA : Aside0 (j7 kq l1 t608 t611 x294_414 t596 t597 t598 t599 t600 t601 t602 t603 t604 = some true)) (HJ414 : Aside0 (kq ≤ kj334)) (HO_39 : Aside0 (k25.R 25 wc w.heap.size (fun (k_ : Nat) => k_ ≠ gb537 ∧ k_ ≠ gb549 ∧ k_ ≠ gb553) v609 t608)) (BK537 : Aside0 (wc.heap[gb537]? = some (Obj.cells #[Value.int IntKind.i64 t533, Value.int IntKind.i64 t534] 25))) (BK549 : Aside0 (wc.heap[gb549]? = some (Obj.cells #[Value.int IntKind.i64 t546, Value.int IntKind.i64 t547] 25))) (BK553 : Aside0 (wc.heap[gb553]? = some (Obj.cells #[Value.int IntKind.i64 t550, Value.int IntKind.i64 t551] 25))) (BK605 : Aside0 (wc.heap[gb605]? = some (Obj.cells #[Value.int IntKind.i64 t596, Value.int IntKind.i64 t597, Value.int IntKind.i64 t598] 27))) (BK606 : Aside0 (wc.heap[gb606]? = some (Obj.cells #[Value.int IntKind.i64 t599, Value.int IntKind.i64 t600, Value.int IntKind.i64 t601] 27))) (BK607 : Aside0 (wc.heap[gb607]? = some (Obj.cells #[Value.int IntKind.i64 t602, Value.int IntKind.i64 t603, Value.int IntKind.i64 t604] 27))) (HB : Aside0 (Below w.heap.size w wc)) : let K1_ : Exit → Act → World → Prop := bodyPost Try.prog Try.f3 fun (e : Ending) (w' : World) => e = Ending.returned (Value.bool true) ∧ Below w.heap.size w w'; ∀ (K3_ : Act → World → Prop), ∀ (K4_ : Act → World → Prop), (∀ (a : Go.Act) (w : Go.World), Go.Code.wp Try.prog ((cutAt Try.f3 [2, 2, 2, 2, 2, 2, 2, 2, 2, 2, 2, 2, 2, 2, 2, 2, 2, 2, 1, 2]).getD .skip) (Exit.then K3_ K1_) a w → K4_ a w) → (∀ (a : Go.Act) (w : Go.World), Go.Code.wp Try.prog ((cutAt Try.f3 [2, 2, 2, 2, 2, 2, 2, 2, 2, 2, 2, 2, 2, 2, 2, 2, 2, 2, 2]).getD .skip) (K1_) a w → K3_ a w) → K4_ { tmps := #[Value.slice A0 l0.length c0, Value.slice A1 l1.length c1, undef, undef, u4, Value.pointer (some { block := gb535, off := 0 }), Value.pointer (some { block := gb536, off := 0 }), Value.pointer (some { block := gb537, off := 0 }), v539, Value.bool t541, v543, Value.bool t545, Value.pointer (some { block := gb549, off := 0 }), Value.bool t548, Value.pointer (some { block := gb553, off := 0 }), Value.bool t552, Value.pointer (some { block := gb558, off := 0 }), Value.bool t557, Value.pointer (some { block := gb563, off := 0 }), Value.bool t562, v565, Value.bool t567, v569, Value.bool t571, undef, u25, u26, u27, undef, u29, u30, u31, u32, u33, u34, u35, Value.pointer (some { block := gb605, off := 0 }), Value.pointer (some { block := gb606, off := 0 }), Value.pointer (some { block := gb607, off := 0 }), v609, Value.bool t611, v613, Value.bool t615, undef, undef, undef, undef, undef, undef, undef, undef, undef, undef, undef, undef, undef, undef, undef, undef, undef, undef, undef, undef, s63, s64, s65, s66, s67, s68, s69, s70, s71, s72, s73, s74, s75, s76, s77, s78, s79, s80, s81, s82, s83, s84, s85, s86, s87, s88, s89, s90, s91, s92, s93, s94, s95, s96, s97, s98, s99, s100, s101, s102, s103, s104, s105, s106, s107, s108, s109, s110, s111, s112, s113, s114, s115, s116, s117, s118, s119, s120, s121, s122, s123, s124, s125, s126, s127, s128, s129, s130, s131, s132, s133, s134, s135, s136, s137, s138, s139, s140, s141, s142, s143, s144, s145, s146, s147, s148, s149, s150, s151, s152, s153, s154, s155, s156, s157, s158, s159, s160, s161, s162, s163, s164, s165, s166, s167, s168, s169, s170, s171, s172, s173, s174, s175, s176, s177, s178, s179, s180, s181, s182, s183, s184, s185, s186, s187, s188, s189, s190, s191, s192, s193, s194, s195, s196, s197, s198, s199, s200, s201, s202, s203, s204, s205, s206, s207, s208, s209, s210, s211, s212, s213, s214, s215, s216, s217, s218, s219, s220, s221, s222, s223, s224, s225, s226, s227, s228, s229, s230, s231, s232, s233, s234, s235, s236, s237, s238, s239, s240, s241, s242, s243, s244, s245, s246, s247, s248, s249, s250, s251, s252, s253, s254, s255, s256, s257, s258, s259, s260, s261, s262, s263, s264, s265, s266, s267, s268, s269, s270, s271, s272, s273, s274, s275, s276, s277, s278, s279, s280, s281, s282, s283, s284, s285, s286, s287, s288, s289, s290, s291, s292, s293, Value.bool x294_414, s295, s296, s297, s298, s299, s300, s301, s302, s303, s304, s305, s306, s307, s308, s309, s310, s311, s312, s313, s314, s315, s316, s317, s318, s319, s320, s321, s322, s323, s324, s325, s326, s327, s328, s329, s330, s331, s332, s333, s334, s335, s336, s337, s338, s339, s340, s341, s342, s343, s344, s345, s346, s347, s348, s349, s350, s351, s352, s353, s354, s355, s356, s357, s358, s359, s360, s361, s362, s363, s364, s365, s366, s367, s368, s369, s370, s371, s372, s373, s374, s375, s376, s377, s378, s379, s380, s381, s382, s383, s384, s385, s386, s387, s388, s389, s390, s391, s392, s393, s394, s395, s396, s397, s398, s399, s400, s401, s402, s403, s404, s405, s406, s407, s408, s409, s410, s411, s412, s413, s414, s415, s416, s417], defers := [] } wc := by
  intro K1_ K3_ K4_ hK2_ hK1_
  replace hK1_ := cut_open hK1_ rfl
  replace hK2_ := cut_open hK2_ rfl
  (try dsimp only)
  cases kq with
  | zero => exact absurd HA.1 (by simp [laws_FnHandsAhead.j7])
  | succ kj414 =>
    have H := HA.1
    clear HA
    simp only [laws_FnHandsAhead.j7] at H
    by_cases c456 : x294_414 = true
    · subst c456
      rw [if_pos rfl] at H
      exact absurd H (by simp)
    replace c456 := Bool.eq_false_iff.mpr c456
    subst c456
    rw [if_neg (show ¬ (false = true) by decide)] at H
    have HC457 := Aside0.mk H
    clear H
    go_upto_if 295 with (fail)
    go_cut [4, 43, 44, 46, 47, 48] from 295 to 337 (fun v4 v43 v44 v46 v47 v48 wc => ∃ (kq : Nat), Aside0 (laws_FnHandsAhead.j9 kq l1 = some true) ∧ Aside0 (kq ≤ kj414) ∧ Aside0 (wc.heap[gb537]? = some (.cells #[.int .i64 t533, .int .i64 t534] 25 (0, 0))) ∧ Aside0 (wc.heap[gb549]? = some (.cells #[.int .i64 t546, .int .i64 t547] 25 (0, 0))) ∧ Aside0 (wc.heap[gb553]? = some (.cells #[.int .i64 t550, .int .i64 t551] 25 (0, 0))) ∧ Aside0 (Below w.heap.size w wc))
    case first =>
      have H := HC457.1
      clear HC457
      by_cases c458 : t611 = true
      · subst c458
        rw [if_pos rfl] at H
        replace H := Option.bind_eq_some_iff.mp H
        obtain ⟨⟨t617, t620⟩, A4590, H⟩ := H
        (try dsimp only at H)
        have A459 := Aside0.mk A4590
        clear A4590
        by_cases c460 : t620 = true
        · subst c460
          rw [if_pos rfl] at H
          have H' := Aside0.mk H
          clear H
          have hnc463 := LT537_605.1
          have hnc464 := LT549_605.1
          have hnc465 := LT553_605.1
          have hnb468 := LT605_606.1
          have hnb469 := LT605_607.1
          obtain ⟨hcz470_0, hcz470_1, hcz470_2, hfz470_0, hfz470_1, hfz470_2⟩ := zc3 BK605
          have hnc473 := LT537_606.1
          have hnc474 := LT549_606.1
          have hnc475 := LT553_606.1
          have hnb478 := LT606_607.1
          obtain ⟨hcz479_0, hcz479_1, hcz479_2, hfz479_0, hfz479_1, hfz479_2⟩ := zc3 BK606
          go_wp2_with (first | ((with_reducible refine gate_callee (f := 21) rfl ?_); refine gl (some 299) Try.func21 #[.agg #[.int .i64 t596, .int .i64 t597, .int .i64 t598], .agg #[.int .i64 t599, .int .i64 t600, .int .i64 t601]] ?_; (with_reducible refine (impl_MeetTimes.calls kj414 t596 t597 t598 t599 t600 t601 t617 true _ A459.1).mono ?_); rintro e w480 ⟨v618, rfl, ho0, hb⟩; refine ⟨_, rfl, ?_⟩; have HO619 := Aside0.mk (Kd.R_lower (Kd.R_newB (Kd.R_newB (Kd.R_newB (Kd.R_new' ho0 (Kd.R_lt (rq HO_39))) (g := gb537) (o := .cells #[.int .i64 t533, .int .i64 t534] 25 (0, 0)) (bk BK537)) (g := gb549) (o := .cells #[.int .i64 t546, .int .i64 t547] 25 (0, 0)) (bk BK549)) (g := gb553) (o := .cells #[.int .i64 t550, .int .i64 t551] 25 (0, 0)) (bk BK553)) (below_size (bq HB))); replace HO_39 := Aside0.mk (Kd.R_elder' (rq HO_39) (Kd.R_base ho0) hb); replace BK537 := zb BK537 hb; replace BK549 := zb BK549 hb; replace BK553 := zb BK553 hb; replace BK605 := zb BK605 hb; replace BK606 := zb BK606 hb; replace BK607 := zb BK607 hb; replace HB := zB HB hb; (try clear hb); (try clear hb2); (try clear hk); (try clear hi); (try clear ho0); obtain ⟨Ao481, co481, eo481⟩ := Kd.R_slice HO619.1; subst eo481))
          go_loopg [306] kj414 (fun kq v306 w' => ∃ (x306_6 : Int), v306 = .int .i64 x306_6 ∧ Aside0 (laws_FnHandsAhead.l2 kq l1 t608 t617 t617 (t617.length : Int) x306_6 t596 t597 t598 t602 t603 t604 = some true) ∧ Aside0 (kq ≤ kj414) ∧ Aside0 (Kd.R k25 25 w' w.heap.size (fun k_ => some k_ ≠ ((.slice Ao481 t617.length co481) : Value).ownBlock ∧ some k_ ≠ ((.slice Ao481 t617.length co481) : Value).ownBlock ∧ k_ ≠ gb537 ∧ k_ ≠ gb549 ∧ k_ ≠ gb553) v609 t608) ∧ Aside0 (Kd.R k25 25 w' w.heap.size (fun k_ => some k_ ≠ (v609 : Value).ownBlock ∧ k_ ≠ gb537 ∧ k_ ≠ gb549 ∧ k_ ≠ gb553) (.slice Ao481 t617.length co481) t617) ∧ Aside0 (Kd.R k25 25 w' w.heap.size (fun k_ => some k_ ≠ (v609 : Value).ownBlock ∧ k_ ≠ gb537 ∧ k_ ≠ gb549 ∧ k_ ≠ gb553) (.slice Ao481 t617.length co481) t617) ∧ Aside0 (w'.heap[gb537]? = some (.cells #[.int .i64 t533, .int .i64 t534] 25 (0, 0))) ∧ Aside0 (w'.heap[gb549]? = some (.cells #[.int .i64 t546, .int .i64 t547] 25 (0, 0))) ∧ Aside0 (w'.heap[gb553]? = some (.cells #[.int .i64 t550, .int .i64 t551] 25 (0, 0))) ∧ Aside0 (w'.heap[gb605]? = some (.cells #[.int .i64 t596, .int .i64 t597, .int .i64 t598] 27 (0, 0))) ∧ Aside0 (w'.heap[gb606]? = some (.cells #[.int .i64 t599, .int .i64 t600, .int .i64 t601] 27 (0, 0))) ∧ Aside0 (w'.heap[gb607]? = some (.cells #[.int .i64 t602, .int .i64 t603, .int .i64 t604] 27 (0, 0))) ∧ Aside0 (Below w.heap.size w w'))
          case atStart => exact ⟨(0), ew, H', ⟨Nat.le_refl _⟩, ⟨by (with_reducible repeat (first | apply Kd.R_alloc | apply Kd.R_drewN | apply Kd.R_drew)); exact Kd.R_mono HO_39.1 (fun _ hk => ⟨hk.2, ⟨hk.2, ⟨hk.1.1, ⟨hk.1.2.1, hk.1.2.2⟩⟩⟩⟩)⟩, ⟨by (with_reducible repeat (first | apply Kd.R_alloc | apply Kd.R_drewN | apply Kd.R_drew)); exact Kd.R_mono HO619.1 (fun _ hk => ⟨hk.1.1.1.2, ⟨hk.1.1.2, ⟨hk.1.2, hk.2⟩⟩⟩)⟩, ⟨by (with_reducible repeat (first | apply Kd.R_alloc | apply Kd.R_drewN | apply Kd.R_drew)); exact Kd.R_mono HO619.1 (fun _ hk => ⟨hk.1.1.1.2, ⟨hk.1.1.2, ⟨hk.1.2, hk.2⟩⟩⟩)⟩, ⟨bk BK537⟩, ⟨bk BK549⟩, ⟨bk BK553⟩, ⟨bk BK605⟩, ⟨bk BK606⟩, ⟨bk BK607⟩, ⟨bq HB⟩⟩
          case round =>
            clear H'
            try clear c4
            try clear c456
            try clear c458
            try clear c460
            try clear hcz21_0
            try clear hcz21_1
            try clear hcz21_2
            try clear hcz23_0
            try clear hcz23_1
            try clear hcz23_2
            try clear hcz24_0
            try clear hcz24_1
            try clear hcz26_0
            try clear hcz26_1
            try clear hcz26_2
            try clear hcz27_0
            try clear hcz27_1
            try clear hcz27_2
            try clear hcz28_0
            try clear hcz28_1
            try clear hcz30_0
            try clear hcz30_1
            try clear hcz30_2
            try clear hcz31_0
            try clear hcz31_1
            try clear hcz31_2
            try clear hcz32_0
            try clear hcz32_1
            try clear hcz38_0
            try clear hcz38_1
            try clear hcz39_0
            try clear hcz39_1
            try clear hcz39_2
            try clear hcz40_0
            try clear hcz40_1
            try clear hcz40_2
            try clear hcz41_0
            try clear hcz41_1
            try clear hcz429_0
            try clear hcz429_1
            try clear hcz429_2
            try clear hcz438_0
            try clear hcz438_1
            try clear hcz438_2
            try clear hcz446_0
            try clear hcz446_1
            try clear hcz446_2
            try clear hcz448_0
            try clear hcz448_1
            try clear hcz448_2
            try clear hcz449_0
            try clear hcz449_1
            try clear hcz449_2
            try clear hcz450_0
            try clear hcz450_1
            try clear hcz450_2
            try clear hcz470_0
            try clear hcz470_1
            try clear hcz470_2
            try clear hcz479_0
            try clear hcz479_1
            try clear hcz479_2
            try clear hcz48_0
            try clear hcz48_1
            try clear hcz49_0
            try clear hcz49_1
            try clear hcz49_2
            try clear hcz50_0
            try clear hcz50_1
            try clear hcz50_2
            try clear hcz58_0
            try clear hcz58_1
            try clear hcz58_2
            try clear hcz59_0
            try clear hcz59_1
            try clear hcz59_2
            try clear hcz60_0
            try clear hcz60_1
            try clear hcz60_2
            try clear hcz69_0
            try clear hcz69_1
            try clear hcz69_2
            try clear hcz70_0
            try clear hcz70_1
            try clear hcz70_2
            try clear hcz71_0
            try clear hcz71_1
            try clear hcz71_2
            try clear hcz73_0
            try clear hcz73_1
            try clear hcz73_2
            try clear hcz74_0
            try clear hcz74_1
            try clear hcz74_2
            try clear hfz21_0
            try clear hfz21_1
            try clear hfz21_2
            try clear hfz23_0
            try clear hfz23_1
            try clear hfz23_2
            try clear hfz24_0
            try clear hfz24_1
            try clear hfz26_0
            try clear hfz26_1
            try clear hfz26_2
            try clear hfz27_0
            try clear hfz27_1
            try clear hfz27_2
            try clear hfz28_0
            try clear hfz28_1
            try clear hfz30_0
            try clear hfz30_1
            try clear hfz30_2
            try clear hfz31_0
            try clear hfz31_1
            try clear hfz31_2
            try clear hfz32_0
            try clear hfz32_1
            try clear hfz38_0
            try clear hfz38_1
            try clear hfz39_0
            try clear hfz39_1
            try clear hfz39_2
            try clear hfz40_0
            try clear hfz40_1
            try clear hfz40_2
            try clear hfz41_0
            try clear hfz41_1
            try clear hfz429_0
            try clear hfz429_1
            try clear hfz429_2
            try clear hfz438_0
            try clear hfz438_1
            try clear hfz438_2
            try clear hfz446_0
            try clear hfz446_1
            try clear hfz446_2
            try clear hfz448_0
            try clear hfz448_1
            try clear hfz448_2
            try clear hfz449_0
            try clear hfz449_1
            try clear hfz449_2
            try clear hfz450_0
            try clear hfz450_1
            try clear hfz450_2
            try clear hfz470_0
            try clear hfz470_1
            try clear hfz470_2
            try clear hfz479_0
            try clear hfz479_1
            try clear hfz479_2
            try clear hfz48_0
            try clear hfz48_1
            try clear hfz49_0
            try clear hfz49_1
            try clear hfz49_2
            try clear hfz50_0
            try clear hfz50_1
            try clear hfz50_2
            try clear hfz58_0
            try clear hfz58_1
            try clear hfz58_2
            try clear hfz59_0
            try clear hfz59_1
            try clear hfz59_2
            try clear hfz60_0
            try clear hfz60_1
            try clear hfz60_2
            try clear hfz69_0
            try clear hfz69_1
            try clear hfz69_2
            try clear hfz70_0
            try clear hfz70_1
            try clear hfz70_2
            try clear hfz71_0
            try clear hfz71_1
            try clear hfz71_2
            try clear hfz73_0
            try clear hfz73_1
            try clear hfz73_2
            try clear hfz74_0
            try clear hfz74_1
            try clear hfz74_2
            obtain ⟨x306_6, rfl, HA, HK6, HO_39, HO_43, HO_304, BK537, BK549, BK553, BK605, BK606, BK607, HB⟩ := hrel
            cases gk with
            | zero => exact absurd HA.1 (by simp [laws_FnHandsAhead.l2])
            | succ k6 =>
              have H := HA.1
              clear HA
              simp only [laws_FnHandsAhead.l2] at H
              by_cases c482 : x306_6 < (t617.length : Int)
              · rw [if_pos c482] at H
                have c482b0 : decide (x306_6 < (t617.length : Int)) = true := decide_eq_true c482
                clear c482
                (first | rw [c482b0] | (simp only [i64_w, i32_w]; rw [c482b0]) | skip)
                by_cases c483 : 0 ≤ x306_6
                · rw [if_pos c483] at H
                  have c483b0 : decide (0 ≤ x306_6) = true := decide_eq_true c483
                  clear c483
                  by_cases c484 : x306_6 < (t617.length : Int)
                  · rw [if_pos c484] at H
                    have c484b0 : decide (x306_6 < (t617.length : Int)) = true := decide_eq_true c484
                    clear c484
                    replace H := Option.bind_eq_some_iff.mp H
                    obtain ⟨⟨t624, t625, t626⟩, A4850, H⟩ := H
                    (try dsimp only at H)
                    have A485 := Aside0.mk A4850
                    clear A4850
                    replace H := Option.bind_eq_some_iff.mp H
                    obtain ⟨t628, A4860, H⟩ := H
                    (try dsimp only at H)
                    have A486 := Aside0.mk A4860
                    clear A4860
                    by_cases c487 : t626 = true
                    · subst c487
                      rw [if_pos rfl] at H
                      by_cases c488 : (t628 != (t624 == 0)) = true
                      · rw [if_pos c488] at H
                        have c488b0 : (t628 != (t624 == 0)) = true := c488
                        (try (have c488b1 : decide (t628 = (t624 == 0)) = false := by simpa using c488))
                        (try (have c488b2 : (t628 == (t624 == 0)) = false := by simpa using c488))
                        (try (have c488b3 : ¬ (t628 = (t624 == 0)) := by simpa using c488))
                        clear c488
                        exact absurd H (by simp)
                      rw [if_neg c488] at H
                      have c488b0 : (t628 != (t624 == 0)) = false := by simpa using c488
                      (try (have c488b1 : decide (t628 = (t624 == 0)) = true := by simpa using c488))
                      (try (have c488b2 : (t628 == (t624 == 0)) = true := by simpa using c488))
                      clear c488
                      have H' := Aside0.mk H
                      clear H
                      have p622 : 0 ≤ (x306_6 : Int) := of_decide_eq_true (by first | (with_reducible assumption) | assumption)
                      have q622 : x306_6 < (t617.length : Int) := of_decide_eq_true (by first | (with_reducible assumption) | assumption)
                      obtain ⟨ad622, e622, hx622_0, hx622_1⟩ := at_T25 (Kd.R_reads' HO_304.1).2.2 x306_6 p622 q622
                      cases e622
                      replace p622 := eq_true p622
                      replace q622 := eq_true q622
                      go_wp2_with (first | ((with_reducible refine gate_dst (N := 46) rfl ?_); (try (refine gate_guard (by rfl) ?_; dsimp only)); refine be #[.int .i64 0, .int .i64 0] 25 ?_; intro gb623 hg w489 hbox hb; replace HO_39 := Aside0.mk (Kd.R_below (Kd.R_elderB (rq HO_39) gb623 (Nat.le_of_eq hg.symm)) hb); replace HO_43 := Aside0.mk (Kd.R_below (Kd.R_elderB (rq HO_43) gb623 (Nat.le_of_eq hg.symm)) hb); replace HO_304 := Aside0.mk (Kd.R_below (Kd.R_elderB (rq HO_304) gb623 (Nat.le_of_eq hg.symm)) hb); have BK623 := Aside0.mk hbox; have GW623 := zs HB hg; have GE623 := zs HB hg; have NB537_623 := zn BK537 hg; have LT537_623 := zo BK537 hg; have NB623_537 := zm BK537 hg; have NB549_623 := zn BK549 hg; have LT549_623 := zo BK549 hg; have NB623_549 := zm BK549 hg; have NB553_623 := zn BK553 hg; have LT553_623 := zo BK553 hg; have NB623_553 := zm BK553 hg; have NB605_623 := zn BK605 hg; have LT605_623 := zo BK605 hg; have NB623_605 := zm BK605 hg; have NB606_623 := zn BK606 hg; have LT606_623 := zo BK606 hg; have NB623_606 := zm BK606 hg; have NB607_623 := zn BK607 hg; have LT607_623 := zo BK607 hg; have NB623_607 := zm BK607 hg; replace BK537 := zb BK537 hb; replace BK549 := zb BK549 hb; replace BK553 := zb BK553 hb; replace BK605 := zb BK605 hb; replace BK606 := zb BK606 hb; replace BK607 := zb BK607 hb; replace HB := zB HB hb; clear hb hbox hg; have hnc492 := LT537_623.1; have hnc493 := LT549_623.1; have hnc494 := LT553_623.1; have hnc497 := LT605_623.1; have hnc498 := LT606_623.1; have hnc499 := LT607_623.1; obtain ⟨hcz500_0, hcz500_1, hfz500_0, hfz500_1⟩ := zc2 BK623; have hnc503 := LT537_605.1; have hnc504 := LT549_605.1; have hnc505 := LT553_605.1; have hnb508 := LT605_606.1; have hnb509 := LT605_607.1; obtain ⟨hcz510_0, hcz510_1, hcz510_2, hfz510_0, hfz510_1, hfz510_2⟩ := zc3 BK605; have hnc513 := LT537_607.1; have hnc514 := LT549_607.1; have hnc515 := LT553_607.1; have hnc518 := LT606_607.1; obtain ⟨hcz519_0, hcz519_1, hcz519_2, hfz519_0, hfz519_1, hfz519_2⟩ := zc3 BK607) | ((with_reducible refine gate_callee (f := 8) rfl ?_); refine gl (some 314) Try.func8 #[.agg #[.int .i64 t596, .int .i64 t597, .int .i64 t598], .agg #[.int .i64 t602, .int .i64 t603, .int .i64 t604], .agg #[.int .i64 ((rd_T25 t617 x306_6).f0), .int .i64 ((rd_T25 t617 x306_6).f1)]] ?_; (with_reducible refine (impl_AheadAt.calls k6 t596 t597 t598 t602 t603 t604 ((rd_T25 t617 x306_6).f0) ((rd_T25 t617 x306_6).f1) t624 t625 true _ A485.1).mono ?_); rintro e w520 ⟨rfl, hb⟩; refine ⟨_, rfl, ?_⟩; replace HO_39 := Aside0.mk (Kd.R_below (by (with_reducible repeat (first | apply Kd.R_alloc | apply Kd.R_drewN | apply Kd.R_drew)); exact (Kd.R_mono (Kd.R_far (p := ⟨gb623, 1, none⟩) (Kd.R_far (p := ⟨gb623, 0, none⟩) (Kd.R_mono HO_39.1 (fun k_ hk => (⟨hk, hk.2⟩ : _ ∧ k_ ≠ gb623))) (fun _ hk => hk.2) (.int .i64 ((rd_T25 t617 x306_6).f0))) (fun _ hk => hk.2) (.int .i64 ((rd_T25 t617 x306_6).f1))) (fun _ h_ => h_.1))) hb); replace HO_43 := Aside0.mk (Kd.R_below (by (with_reducible repeat (first | apply Kd.R_alloc | apply Kd.R_drewN | apply Kd.R_drew)); exact (Kd.R_mono (Kd.R_far (p := ⟨gb623, 1, none⟩) (Kd.R_far (p := ⟨gb623, 0, none⟩) (Kd.R_mono HO_43.1 (fun k_ hk => (⟨hk, hk.2⟩ : _ ∧ k_ ≠ gb623))) (fun _ hk => hk.2) (.int .i64 ((rd_T25 t617 x306_6).f0))) (fun _ hk => hk.2) (.int .i64 ((rd_T25 t617 x306_6).f1))) (fun _ h_ => h_.1))) hb); replace HO_304 := Aside0.mk (Kd.R_below (by (with_reducible repeat (first | apply Kd.R_alloc | apply Kd.R_drewN | apply Kd.R_drew)); exact (Kd.R_mono (Kd.R_far (p := ⟨gb623, 1, none⟩) (Kd.R_far (p := ⟨gb623, 0, none⟩) (Kd.R_mono HO_304.1 (fun k_ hk => (⟨hk, hk.2⟩ : _ ∧ k_ ≠ gb623))) (fun _ hk => hk.2) (.int .i64 ((rd_T25 t617 x306_6).f0))) (fun _ hk => hk.2) (.int .i64 ((rd_T25 t617 x306_6).f1))) (fun _ h_ => h_.1))) hb); replace BK537 := zy (o' := .cells #[.int .i64 t533, .int .i64 t534] 25 (0, 0)) BK537 hb; replace BK549 := zy (o' := .cells #[.int .i64 t546, .int .i64 t547] 25 (0, 0)) BK549 hb; replace BK553 := zy (o' := .cells #[.int .i64 t550, .int .i64 t551] 25 (0, 0)) BK553 hb; replace BK605 := zy (o' := .cells #[.int .i64 t596, .int .i64 t597, .int .i64 t598] 27 (0, 0)) BK605 hb; replace BK606 := zy (o' := .cells #[.int .i64 t599, .int .i64 t600, .int .i64 t601] 27 (0, 0)) BK606 hb; replace BK607 := zy (o' := .cells #[.int .i64 t602, .int .i64 t603, .int .i64 t604] 27 (0, 0)) BK607 hb; replace BK623 := zy (o' := .cells #[.int .i64 ((rd_T25 t617 x306_6).f0), .int .i64 ((rd_T25 t617 x306_6).f1)] 25 (0, 0)) BK623 hb; replace HB := zB HB hb; clear hb) | ((with_reducible refine gate_dst (N := 47) rfl ?_); (try (refine gate_guard (by rfl) ?_; dsimp only)); refine be #[.int .i64 0, .int .i64 0] 25 ?_; intro gb627 hg w521 hbox hb; replace HO_39 := Aside0.mk (Kd.R_below (Kd.R_elderB (rq HO_39) gb627 (Nat.le_of_eq hg.symm)) hb); replace HO_43 := Aside0.mk (Kd.R_below (Kd.R_elderB (rq HO_43) gb627 (Nat.le_of_eq hg.symm)) hb); replace HO_304 := Aside0.mk (Kd.R_below (Kd.R_elderB (rq HO_304) gb627 (Nat.le_of_eq hg.symm)) hb); have BK627 := Aside0.mk hbox; have GW627 := zs HB hg; have GE627 := zs HB hg; have NB537_627 := zn BK537 hg; have LT537_627 := zo BK537 hg; have NB627_537 := zm BK537 hg; have NB549_627 := zn BK549 hg; have LT549_627 := zo BK549 hg; have NB627_549 := zm BK549 hg; have NB553_627 := zn BK553 hg; have LT553_627 := zo BK553 hg; have NB627_553 := zm BK553 hg; have NB605_627 := zn BK605 hg; have LT605_627 := zo BK605 hg; have NB627_605 := zm BK605 hg; have NB606_627 := zn BK606 hg; have LT606_627 := zo BK606 hg; have NB627_606 := zm BK606 hg; have NB607_627 := zn BK607 hg; have LT607_627 := zo BK607 hg; have NB627_607 := zm BK607 hg; have NB623_627 := zn BK623 hg; have LT623_627 := zo BK623 hg; have NB627_623 := zm BK623 hg; replace BK537 := zb BK537 hb; replace BK549 := zb BK549 hb; replace BK553 := zb BK553 hb; replace BK605 := zb BK605 hb; replace BK606 := zb BK606 hb; replace BK607 := zb BK607 hb; replace BK623 := zb BK623 hb; replace HB := zB HB hb; clear hb hbox hg; have hnc524 := LT537_627.1; have hnc525 := LT549_627.1; have hnc526 := LT553_627.1; have hnc529 := LT605_627.1; have hnc530 := LT606_627.1; have hnc531 := LT607_627.1; have hnc532 := LT623_627.1; obtain ⟨hcz533_0, hcz533_1, hfz533_0, hfz533_1⟩ := zc2 BK627; obtain ⟨hcz534_0, hcz534_1, hfz534_0, hfz534_1⟩ := zc2 BK623; obtain ⟨Ao535, co535, eo535⟩ := Kd.R_slice HO_39.1; subst eo535) | ((with_reducible refine gate_callee (f := 22) rfl ?_); refine gl (some 319) Try.func22 #[.slice Ao535 t608.length co535, .agg #[.int .i64 ((rd_T25 t617 x306_6).f0), .int .i64 ((rd_T25 t617 x306_6).f1)]] ?_; (with_reducible refine (laws_kIn.calls k6 _ _ t608 ((rd_T25 t617 x306_6).f0) ((rd_T25 t617 x306_6).f1) t628 _ ?side1 ?side2 A486.1).mono ?_); (case side1 => refine (Kd.R_reads' (e := 25) (base := w.heap.size) (ok := fun k_ => (((some k_ ≠ (.slice (some ad622) t617.length co481 : Value).ownBlock ∧ (some k_ ≠ (.slice (some ad622) t617.length co481 : Value).ownBlock ∧ (k_ ≠ gb537 ∧ (k_ ≠ gb549 ∧ k_ ≠ gb553)))) ∧ k_ ≠ gb623) ∧ k_ ≠ gb627)) (n := t608.length) (c := co535) ?_).2.2; exact (by (with_reducible repeat (first | apply Kd.R_alloc | apply Kd.R_drewN | apply Kd.R_drew)); exact (Kd.R_mono (Kd.R_far (p := ⟨gb627, 1, none⟩) (Kd.R_far (p := ⟨gb627, 0, none⟩) (Kd.R_mono HO_39.1 (fun k_ hk => (⟨hk, hk.2⟩ : _ ∧ k_ ≠ gb627))) (fun _ hk => hk.2) (.int .i64 t624)) (fun _ hk => hk.2) (.int .i64 t625)) (fun _ h_ => h_.1)))); (case side2 => exact (Kd.R_reads' HO_39.1).2.1); rintro e w536 ⟨rfl, hb⟩; refine ⟨_, rfl, ?_⟩; replace HO_39 := Aside0.mk (Kd.R_below (by (with_reducible repeat (first | apply Kd.R_alloc | apply Kd.R_drewN | apply Kd.R_drew)); exact (Kd.R_mono (Kd.R_far (p := ⟨gb627, 1, none⟩) (Kd.R_far (p := ⟨gb627, 0, none⟩) (Kd.R_mono HO_39.1 (fun k_ hk => (⟨hk, hk.2⟩ : _ ∧ k_ ≠ gb627))) (fun _ hk => hk.2) (.int .i64 t624)) (fun _ hk => hk.2) (.int .i64 t625)) (fun _ h_ => h_.1))) hb); replace HO_43 := Aside0.mk (Kd.R_below (by (with_reducible repeat (first | apply Kd.R_alloc | apply Kd.R_drewN | apply Kd.R_drew)); exact (Kd.R_mono (Kd.R_far (p := ⟨gb627, 1, none⟩) (Kd.R_far (p := ⟨gb627, 0, none⟩) (Kd.R_mono HO_43.1 (fun k_ hk => (⟨hk, hk.2⟩ : _ ∧ k_ ≠ gb627))) (fun _ hk => hk.2) (.int .i64 t624)) (fun _ hk => hk.2) (.int .i64 t625)) (fun _ h_ => h_.1))) hb); replace HO_304 := Aside0.mk (Kd.R_below (by (with_reducible repeat (first | apply Kd.R_alloc | apply Kd.R_drewN | apply Kd.R_drew)); exact (Kd.R_mono (Kd.R_far (p := ⟨gb627, 1, none⟩) (Kd.R_far (p := ⟨gb627, 0, none⟩) (Kd.R_mono HO_304.1 (fun k_ hk => (⟨hk, hk.2⟩ : _ ∧ k_ ≠ gb627))) (fun _ hk => hk.2) (.int .i64 t624)) (fun _ hk => hk.2) (.int .i64 t625)) (fun _ h_ => h_.1))) hb); replace BK537 := zy (o' := .cells #[.int .i64 t533, .int .i64 t534] 25 (0, 0)) BK537 hb; replace BK549 := zy (o' := .cells #[.int .i64 t546, .int .i64 t547] 25 (0, 0)) BK549 hb; replace BK553 := zy (o' := .cells #[.int .i64 t550, .int .i64 t551] 25 (0, 0)) BK553 hb; replace BK605 := zy (o' := .cells #[.int .i64 t596, .int .i64 t597, .int .i64 t598] 27 (0, 0)) BK605 hb; replace BK606 := zy (o' := .cells #[.int .i64 t599, .int .i64 t600, .int .i64 t601] 27 (0, 0)) BK606 hb; replace BK607 := zy (o' := .cells #[.int .i64 t602, .int .i64 t603, .int .i64 t604] 27 (0, 0)) BK607 hb; replace BK623 := zy (o' := .cells #[.int .i64 ((rd_T25 t617 x306_6).f0), .int .i64 ((rd_T25 t617 x306_6).f1)] 25 (0, 0)) BK623 hb; replace BK627 := zy (o' := .cells #[.int .i64 t624, .int .i64 t625] 25 (0, 0)) BK627 hb; replace HB := zB HB hb; clear hb; obtain ⟨hcz537_0, hcz537_1, hfz537_0, hfz537_1⟩ := zc2 BK627))
                      go_roundg k6
                      case measure => have := HJ13.1; have := HJ193.1; have := HJ273.1; have := HJ334.1; have := HJ414.1; have := HK6.1; omega
                      case rel => exact ⟨(wrap64 (x306_6 + 1)), ew, H', ⟨by have := HJ13.1; have := HJ193.1; have := HJ273.1; have := HJ334.1; have := HJ414.1; have := HK6.1; omega⟩, ⟨by (with_reducible repeat (first | apply Kd.R_alloc | apply Kd.R_drewN | apply Kd.R_drew)); exact Kd.R_mono HO_39.1 (fun _ hk => ⟨hk.1.1.1, ⟨hk.1.1.2.1, ⟨hk.1.1.2.2.1, ⟨hk.1.1.2.2.2.1, hk.1.1.2.2.2.2⟩⟩⟩⟩)⟩, ⟨by (with_reducible repeat (first | apply Kd.R_alloc | apply Kd.R_drewN | apply Kd.R_drew)); exact Kd.R_mono HO_43.1 (fun _ hk => ⟨hk.1.1.1, ⟨hk.1.1.2.1, ⟨hk.1.1.2.2.1, hk.1.1.2.2.2⟩⟩⟩)⟩, ⟨by (with_reducible repeat (first | apply Kd.R_alloc | apply Kd.R_drewN | apply Kd.R_drew)); exact Kd.R_mono HO_304.1 (fun _ hk => ⟨hk.1.1.1, ⟨hk.1.1.2.1, ⟨hk.1.1.2.2.1, hk.1.1.2.2.2⟩⟩⟩)⟩, ⟨bk BK537⟩, ⟨bk BK549⟩, ⟨bk BK553⟩, ⟨bk BK605⟩, ⟨bk BK606⟩, ⟨bk BK607⟩, ⟨bq HB⟩⟩
                    replace c487 := Bool.eq_false_iff.mpr c487
                    subst c487
                    rw [if_neg (show ¬ (false = true) by decide)] at H
                    by_cases c538 : (t628 != false) = true
                    · rw [if_pos c538] at H
                      have c538b0 : (t628 != false) = true := c538
                      (try (have c538b1 : decide (t628 = false) = false := by simpa using c538))
                      (try (have c538b2 : (t628 == false) = false := by simpa using c538))
                      (try (have c538b3 : ¬ (t628 = false) := by simpa using c538))
                      clear c538
                      exact absurd H (by simp)
                    rw [if_neg c538] at H
                    have c538b0 : (t628 != false) = false := by simpa using c538
                    (try (have c538b1 : decide (t628 = false) = true := by simpa using c538))
                    (try (have c538b2 : (t628 == false) = true := by simpa using c538))
                    clear c538
                    have H' := Aside0.mk H
                    clear H
                    have p622 : 0 ≤ (x306_6 : Int) := of_decide_eq_true (by first | (with_reducible assumption) | assumption)
                    have q622 : x306_6 < (t617.length : Int) := of_decide_eq_true (by first | (with_reducible assumption) | assumption)
                    obtain ⟨ad622, e622, hx622_0, hx622_1⟩ := at_T25 (Kd.R_reads' HO_304.1).2.2 x306_6 p622 q622
                    cases e622
                    replace p622 := eq_true p622
                    replace q622 := eq_true q622
                    go_wp2_with (first | ((with_reducible refine gate_dst (N := 46) rfl ?_); (try (refine gate_guard (by rfl) ?_; dsimp only)); refine be #[.int .i64 0, .int .i64 0] 25 ?_; intro gb623 hg w539 hbox hb; replace HO_39 := Aside0.mk (Kd.R_below (Kd.R_elderB (rq HO_39) gb623 (Nat.le_of_eq hg.symm)) hb); replace HO_43 := Aside0.mk (Kd.R_below (Kd.R_elderB (rq HO_43) gb623 (Nat.le_of_eq hg.symm)) hb); replace HO_304 := Aside0.mk (Kd.R_below (Kd.R_elderB (rq HO_304) gb623 (Nat.le_of_eq hg.symm)) hb); have BK623 := Aside0.mk hbox; have GW623 := zs HB hg; have GE623 := zs HB hg; have NB537_623 := zn BK537 hg; have LT537_623 := zo BK537 hg; have NB623_537 := zm BK537 hg; have NB549_623 := zn BK549 hg; have LT549_623 := zo BK549 hg; have NB623_549 := zm BK549 hg; have NB553_623 := zn BK553 hg; have LT553_623 := zo BK553 hg; have NB623_553 := zm BK553 hg; have NB605_623 := zn BK605 hg; have LT605_623 := zo BK605 hg; have NB623_605 := zm BK605 hg; have NB606_623 := zn BK606 hg; have LT606_623 := zo BK606 hg; have NB623_606 := zm BK606 hg; have NB607_623 := zn BK607 hg; have LT607_623 := zo BK607 hg; have NB623_607 := zm BK607 hg; replace BK537 := zb BK537 hb; replace BK549 := zb BK549 hb; replace BK553 := zb BK553 hb; replace BK605 := zb BK605 hb; replace BK606 := zb BK606 hb; replace BK607 := zb BK607 hb; replace HB := zB HB hb; clear hb hbox hg; have hnc542 := LT537_623.1; have hnc543 := LT549_623.1; have hnc544 := LT553_623.1; have hnc547 := LT605_623.1; have hnc548 := LT606_623.1; have hnc549 := LT607_623.1; obtain ⟨hcz550_0, hcz550_1, hfz550_0, hfz550_1⟩ := zc2 BK623; have hnc553 := LT537_605.1; have hnc554 := LT549_605.1; have hnc555 := LT553_605.1; have hnb558 := LT605_606.1; have hnb559 := LT605_607.1; obtain ⟨hcz560_0, hcz560_1, hcz560_2, hfz560_0, hfz560_1, hfz560_2⟩ := zc3 BK605; have hnc563 := LT537_607.1; have hnc564 := LT549_607.1; have hnc565 := LT553_607.1; have hnc568 := LT606_607.1; obtain ⟨hcz569_0, hcz569_1, hcz569_2, hfz569_0, hfz569_1, hfz569_2⟩ := zc3 BK607) | ((with_reducible refine gate_callee (f := 8) rfl ?_); refine gl (some 314) Try.func8 #[.agg #[.int .i64 t596, .int .i64 t597, .int .i64 t598], .agg #[.int .i64 t602, .int .i64 t603, .int .i64 t604], .agg #[.int .i64 ((rd_T25 t617 x306_6).f0), .int .i64 ((rd_T25 t617 x306_6).f1)]] ?_; (with_reducible refine (impl_AheadAt.calls k6 t596 t597 t598 t602 t603 t604 ((rd_T25 t617 x306_6).f0) ((rd_T25 t617 x306_6).f1) t624 t625 false _ A485.1).mono ?_); rintro e w570 ⟨rfl, hb⟩; refine ⟨_, rfl, ?_⟩; replace HO_39 := Aside0.mk (Kd.R_below (by (with_reducible repeat (first | apply Kd.R_alloc | apply Kd.R_drewN | apply Kd.R_drew)); exact (Kd.R_mono (Kd.R_far (p := ⟨gb623, 1, none⟩) (Kd.R_far (p := ⟨gb623, 0, none⟩) (Kd.R_mono HO_39.1 (fun k_ hk => (⟨hk, hk.2⟩ : _ ∧ k_ ≠ gb623))) (fun _ hk => hk.2) (.int .i64 ((rd_T25 t617 x306_6).f0))) (fun _ hk => hk.2) (.int .i64 ((rd_T25 t617 x306_6).f1))) (fun _ h_ => h_.1))) hb); replace HO_43 := Aside0.mk (Kd.R_below (by (with_reducible repeat (first | apply Kd.R_alloc | apply Kd.R_drewN | apply Kd.R_drew)); exact (Kd.R_mono (Kd.R_far (p := ⟨gb623, 1, none⟩) (Kd.R_far (p := ⟨gb623, 0, none⟩) (Kd.R_mono HO_43.1 (fun k_ hk => (⟨hk, hk.2⟩ : _ ∧ k_ ≠ gb623))) (fun _ hk => hk.2) (.int .i64 ((rd_T25 t617 x306_6).f0))) (fun _ hk => hk.2) (.int .i64 ((rd_T25 t617 x306_6).f1))) (fun _ h_ => h_.1))) hb); replace HO_304 := Aside0.mk (Kd.R_below (by (with_reducible repeat (first | apply Kd.R_alloc | apply Kd.R_drewN | apply Kd.R_drew)); exact (Kd.R_mono (Kd.R_far (p := ⟨gb623, 1, none⟩) (Kd.R_far (p := ⟨gb623, 0, none⟩) (Kd.R_mono HO_304.1 (fun k_ hk => (⟨hk, hk.2⟩ : _ ∧ k_ ≠ gb623))) (fun _ hk => hk.2) (.int .i64 ((rd_T25 t617 x306_6).f0))) (fun _ hk => hk.2) (.int .i64 ((rd_T25 t617 x306_6).f1))) (fun _ h_ => h_.1))) hb); replace BK537 := zy (o' := .cells #[.int .i64 t533, .int .i64 t534] 25 (0, 0)) BK537 hb; replace BK549 := zy (o' := .cells #[.int .i64 t546, .int .i64 t547] 25 (0, 0)) BK549 hb; replace BK553 := zy (o' := .cells #[.int .i64 t550, .int .i64 t551] 25 (0, 0)) BK553 hb; replace BK605 := zy (o' := .cells #[.int .i64 t596, .int .i64 t597, .int .i64 t598] 27 (0, 0)) BK605 hb; replace BK606 := zy (o' := .cells #[.int .i64 t599, .int .i64 t600, .int .i64 t601] 27 (0, 0)) BK606 hb; replace BK607 := zy (o' := .cells #[.int .i64 t602, .int .i64 t603, .int .i64 t604] 27 (0, 0)) BK607 hb; replace BK623 := zy (o' := .cells #[.int .i64 ((rd_T25 t617 x306_6).f0), .int .i64 ((rd_T25 t617 x306_6).f1)] 25 (0, 0)) BK623 hb; replace HB := zB HB hb; clear hb) | ((with_reducible refine gate_dst (N := 47) rfl ?_); (try (refine gate_guard (by rfl) ?_; dsimp only)); refine be #[.int .i64 0, .int .i64 0] 25 ?_; intro gb627 hg w571 hbox hb; replace HO_39 := Aside0.mk (Kd.R_below (Kd.R_elderB (rq HO_39) gb627 (Nat.le_of_eq hg.symm)) hb); replace HO_43 := Aside0.mk (Kd.R_below (Kd.R_elderB (rq HO_43) gb627 (Nat.le_of_eq hg.symm)) hb); replace HO_304 := Aside0.mk (Kd.R_below (Kd.R_elderB (rq HO_304) gb627 (Nat.le_of_eq hg.symm)) hb); have BK627 := Aside0.mk hbox; have GW627 := zs HB hg; have GE627 := zs HB hg; have NB537_627 := zn BK537 hg; have LT537_627 := zo BK537 hg; have NB627_537 := zm BK537 hg; have NB549_627 := zn BK549 hg; have LT549_627 := zo BK549 hg; have NB627_549 := zm BK549 hg; have NB553_627 := zn BK553 hg; have LT553_627 := zo BK553 hg; have NB627_553 := zm BK553 hg; have NB605_627 := zn BK605 hg; have LT605_627 := zo BK605 hg; have NB627_605 := zm BK605 hg; have NB606_627 := zn BK606 hg; have LT606_627 := zo BK606 hg; have NB627_606 := zm BK606 hg; have NB607_627 := zn BK607 hg; have LT607_627 := zo BK607 hg; have NB627_607 := zm BK607 hg; have NB623_627 := zn BK623 hg; have LT623_627 := zo BK623 hg; have NB627_623 := zm BK623 hg; replace BK537 := zb BK537 hb; replace BK549 := zb BK549 hb; replace BK553 := zb BK553 hb; replace BK605 := zb BK605 hb; replace BK606 := zb BK606 hb; replace BK607 := zb BK607 hb; replace BK623 := zb BK623 hb; replace HB := zB HB hb; clear hb hbox hg; have hnc574 := LT537_627.1; have hnc575 := LT549_627.1; have hnc576 := LT553_627.1; have hnc579 := LT605_627.1; have hnc580 := LT606_627.1; have hnc581 := LT607_627.1; have hnc582 := LT623_627.1; obtain ⟨hcz583_0, hcz583_1, hfz583_0, hfz583_1⟩ := zc2 BK627; obtain ⟨hcz584_0, hcz584_1, hfz584_0, hfz584_1⟩ := zc2 BK623; obtain ⟨Ao585, co585, eo585⟩ := Kd.R_slice HO_39.1; subst eo585) | ((with_reducible refine gate_callee (f := 22) rfl ?_); refine gl (some 319) Try.func22 #[.slice Ao585 t608.length co585, .agg #[.int .i64 ((rd_T25 t617 x306_6).f0), .int .i64 ((rd_T25 t617 x306_6).f1)]] ?_; (with_reducible refine (laws_kIn.calls k6 _ _ t608 ((rd_T25 t617 x306_6).f0) ((rd_T25 t617 x306_6).f1) t628 _ ?side1 ?side2 A486.1).mono ?_); (case side1 => refine (Kd.R_reads' (e := 25) (base := w.heap.size) (ok := fun k_ => (((some k_ ≠ (.slice (some ad622) t617.length co481 : Value).ownBlock ∧ (some k_ ≠ (.slice (some ad622) t617.length co481 : Value).ownBlock ∧ (k_ ≠ gb537 ∧ (k_ ≠ gb549 ∧ k_ ≠ gb553)))) ∧ k_ ≠ gb623) ∧ k_ ≠ gb627)) (n := t608.length) (c := co585) ?_).2.2; exact (by (with_reducible repeat (first | apply Kd.R_alloc | apply Kd.R_drewN | apply Kd.R_drew)); exact (Kd.R_mono (Kd.R_far (p := ⟨gb627, 1, none⟩) (Kd.R_far (p := ⟨gb627, 0, none⟩) (Kd.R_mono HO_39.1 (fun k_ hk => (⟨hk, hk.2⟩ : _ ∧ k_ ≠ gb627))) (fun _ hk => hk.2) (.int .i64 t624)) (fun _ hk => hk.2) (.int .i64 t625)) (fun _ h_ => h_.1)))); (case side2 => exact (Kd.R_reads' HO_39.1).2.1); rintro e w586 ⟨rfl, hb⟩; refine ⟨_, rfl, ?_⟩; replace HO_39 := Aside0.mk (Kd.R_below (by (with_reducible repeat (first | apply Kd.R_alloc | apply Kd.R_drewN | apply Kd.R_drew)); exact (Kd.R_mono (Kd.R_far (p := ⟨gb627, 1, none⟩) (Kd.R_far (p := ⟨gb627, 0, none⟩) (Kd.R_mono HO_39.1 (fun k_ hk => (⟨hk, hk.2⟩ : _ ∧ k_ ≠ gb627))) (fun _ hk => hk.2) (.int .i64 t624)) (fun _ hk => hk.2) (.int .i64 t625)) (fun _ h_ => h_.1))) hb); replace HO_43 := Aside0.mk (Kd.R_below (by (with_reducible repeat (first | apply Kd.R_alloc | apply Kd.R_drewN | apply Kd.R_drew)); exact (Kd.R_mono (Kd.R_far (p := ⟨gb627, 1, none⟩) (Kd.R_far (p := ⟨gb627, 0, none⟩) (Kd.R_mono HO_43.1 (fun k_ hk => (⟨hk, hk.2⟩ : _ ∧ k_ ≠ gb627))) (fun _ hk => hk.2) (.int .i64 t624)) (fun _ hk => hk.2) (.int .i64 t625)) (fun _ h_ => h_.1))) hb); replace HO_304 := Aside0.mk (Kd.R_below (by (with_reducible repeat (first | apply Kd.R_alloc | apply Kd.R_drewN | apply Kd.R_drew)); exact (Kd.R_mono (Kd.R_far (p := ⟨gb627, 1, none⟩) (Kd.R_far (p := ⟨gb627, 0, none⟩) (Kd.R_mono HO_304.1 (fun k_ hk => (⟨hk, hk.2⟩ : _ ∧ k_ ≠ gb627))) (fun _ hk => hk.2) (.int .i64 t624)) (fun _ hk => hk.2) (.int .i64 t625)) (fun _ h_ => h_.1))) hb); replace BK537 := zy (o' := .cells #[.int .i64 t533, .int .i64 t534] 25 (0, 0)) BK537 hb; replace BK549 := zy (o' := .cells #[.int .i64 t546, .int .i64 t547] 25 (0, 0)) BK549 hb; replace BK553 := zy (o' := .cells #[.int .i64 t550, .int .i64 t551] 25 (0, 0)) BK553 hb; replace BK605 := zy (o' := .cells #[.int .i64 t596, .int .i64 t597, .int .i64 t598] 27 (0, 0)) BK605 hb; replace BK606 := zy (o' := .cells #[.int .i64 t599, .int .i64 t600, .int .i64 t601] 27 (0, 0)) BK606 hb; replace BK607 := zy (o' := .cells #[.int .i64 t602, .int .i64 t603, .int .i64 t604] 27 (0, 0)) BK607 hb; replace BK623 := zy (o' := .cells #[.int .i64 ((rd_T25 t617 x306_6).f0), .int .i64 ((rd_T25 t617 x306_6).f1)] 25 (0, 0)) BK623 hb; replace BK627 := zy (o' := .cells #[.int .i64 t624, .int .i64 t625] 25 (0, 0)) BK627 hb; replace HB := zB HB hb; clear hb))
                    go_roundg k6
                    case measure => have := HJ13.1; have := HJ193.1; have := HJ273.1; have := HJ334.1; have := HJ414.1; have := HK6.1; omega
                    case rel => exact ⟨(wrap64 (x306_6 + 1)), ew, H', ⟨by have := HJ13.1; have := HJ193.1; have := HJ273.1; have := HJ334.1; have := HJ414.1; have := HK6.1; omega⟩, ⟨by (with_reducible repeat (first | apply Kd.R_alloc | apply Kd.R_drewN | apply Kd.R_drew)); exact Kd.R_mono HO_39.1 (fun _ hk => ⟨hk.1.1.1, ⟨hk.1.1.2.1, ⟨hk.1.1.2.2.1, ⟨hk.1.1.2.2.2.1, hk.1.1.2.2.2.2⟩⟩⟩⟩)⟩, ⟨by (with_reducible repeat (first | apply Kd.R_alloc | apply Kd.R_drewN | apply Kd.R_drew)); exact Kd.R_mono HO_43.1 (fun _ hk => ⟨hk.1.1.1, ⟨hk.1.1.2.1, ⟨hk.1.1.2.2.1, hk.1.1.2.2.2⟩⟩⟩)⟩, ⟨by (with_reducible repeat (first | apply Kd.R_alloc | apply Kd.R_drewN | apply Kd.R_drew)); exact Kd.R_mono HO_304.1 (fun _ hk => ⟨hk.1.1.1, ⟨hk.1.1.2.1, ⟨hk.1.1.2.2.1, hk.1.1.2.2.2⟩⟩⟩)⟩, ⟨bk BK537⟩, ⟨bk BK549⟩, ⟨bk BK553⟩, ⟨bk BK605⟩, ⟨bk BK606⟩, ⟨bk BK607⟩, ⟨bq HB⟩⟩
                  rw [if_neg c484] at H
                  exact absurd H (by simp)
                rw [if_neg c483] at H
                exact absurd H (by simp)
              rw [if_neg c482] at H
              have c482b0 : decide (x306_6 < (t617.length : Int)) = false := decide_eq_false c482
              clear c482
              (first | rw [c482b0] | (simp only [i64_w, i32_w]; rw [c482b0]) | skip)
              replace H := Option.bind_eq_some_iff.mp H
              obtain ⟨t621, A5870, H⟩ := H
              (try dsimp only at H)
              have A587 := Aside0.mk A5870
              clear A5870
              by_cases c588 : t621 = true
              · subst c588
                rw [if_pos rfl] at H
                by_cases c589 : (t608.length : Int) > (t617.length : Int)
                · rw [if_pos c589] at H
                  have c589b0 : decide ((t617.length : Int) < (t608.length : Int)) = true := decide_eq_true c589
                  have c589b1 : decide (t617.length < t608.length) = true := decide_eq_true (Int.ofNat_lt.mp c589)
                  clear c589
                  exact absurd H (by simp)
                rw [if_neg c589] at H
                have c589b0 : decide ((t617.length : Int) < (t608.length : Int)) = false := decide_eq_false c589
                have c589b1 : decide (t617.length < t608.length) = false := decide_eq_false (fun h => c589 (Int.ofNat_lt.mpr h))
                clear c589
                have H' := Aside0.mk H
                clear H
                obtain ⟨Ao590, co590, eo590⟩ := Kd.R_slice HO_39.1
                subst eo590
                go_wp2_with (first | ((with_reducible refine gate_callee (f := 16) rfl ?_); refine gl (some 329) Try.func16 #[.slice Ao590 t608.length co590] ?_; (with_reducible refine (laws_kRises.calls k6 _ _ t608 true _ ?side1 ?side2 A587.1).mono ?_); (case side1 => repeat (first | exact (Kd.R_reads' HO_39.1).2.2 | (with_reducible refine Kd.C_alloc ?_ _) | (with_reducible refine Kd.C_drewN ?_ _) | (with_reducible refine Kd.C_drew ?_))); (case side2 => exact (Kd.R_reads' HO_39.1).2.1); rintro e w' ⟨rfl, ⟨nd, rfl⟩⟩; refine ⟨_, rfl, ?_⟩))
                go_meet
                case rel => exact ⟨_, H', ⟨by have := HJ13.1; have := HJ193.1; have := HJ273.1; have := HJ334.1; have := HJ414.1; have := HK6.1; first | omega | exact Nat.le_refl _⟩, ⟨bk BK537⟩, ⟨bk BK549⟩, ⟨bk BK553⟩, ⟨bq HB⟩⟩
              replace c588 := Bool.eq_false_iff.mpr c588
              subst c588
              rw [if_neg (show ¬ (false = true) by decide)] at H
              exact absurd H (by simp)
        replace c460 := Bool.eq_false_iff.mpr c460
        subst c460
        rw [if_neg (show ¬ (false = true) by decide)] at H
        exact absurd H (by simp)
      replace c458 := Bool.eq_false_iff.mpr c458
      subst c458
      rw [if_neg (show ¬ (false = true) by decide)] at H
      have H' := Aside0.mk H
      clear H
      go_wp2
      go_meet
      case rel => exact ⟨_, H', ⟨by have := HJ13.1; have := HJ193.1; have := HJ273.1; have := HJ334.1; have := HJ414.1; first | omega | exact Nat.le_refl _⟩, ⟨bk BK537⟩, ⟨bk BK549⟩, ⟨bk BK553⟩, ⟨bq HB⟩⟩
    clear HC457
    try clear c1
    try clear c4
    try clear hcz21_0
    try clear hcz21_1
    try clear hcz21_2
    try clear hcz23_0
    try clear hcz23_1
    try clear hcz23_2
    try clear hcz24_0
    try clear hcz24_1
    try clear hcz26_0
    try clear hcz26_1
    try clear hcz26_2
    try clear hcz27_0
    try clear hcz27_1
    try clear hcz27_2
    try clear hcz28_0
    try clear hcz28_1
    try clear hcz30_0
    try clear hcz30_1
    try clear hcz30_2
    try clear hcz31_0
    try clear hcz31_1
    try clear hcz31_2
    try clear hcz32_0
    try clear hcz32_1
    try clear hcz38_0
    try clear hcz38_1
    try clear hcz39_0
    try clear hcz39_1
    try clear hcz39_2
    try clear hcz40_0
    try clear hcz40_1
    try clear hcz40_2
    try clear hcz41_0
    try clear hcz41_1
    try clear hcz429_0
    try clear hcz429_1
    try clear hcz429_2
    try clear hcz438_0
    try clear hcz438_1
    try clear hcz438_2
    try clear hcz446_0
    try clear hcz446_1
    try clear hcz446_2
    try clear hcz448_0
    try clear hcz448_1
    try clear hcz448_2
    try clear hcz449_0
    try clear hcz449_1
    try clear hcz449_2
    try clear hcz450_0
    try clear hcz450_1
    try clear hcz450_2
    try clear hcz48_0
    try clear hcz48_1
    try clear hcz49_0
    try clear hcz49_1
    try clear hcz49_2
    try clear hcz50_0
    try clear hcz50_1
    try clear hcz50_2
    try clear hcz58_0
    try clear hcz58_1
    try clear hcz58_2
    try clear hcz59_0
    try clear hcz59_1
    try clear hcz59_2
    try clear hcz60_0
    try clear hcz60_1
    try clear hcz60_2
    try clear hcz69_0
    try clear hcz69_1
    try clear hcz69_2
    try clear hcz70_0
    try clear hcz70_1
    try clear hcz70_2
    try clear hcz71_0
    try clear hcz71_1
    try clear hcz71_2
    try clear hcz73_0
    try clear hcz73_1
    try clear hcz73_2
    try clear hcz74_0
    try clear hcz74_1
    try clear hcz74_2
    try clear hfz21_0
    try clear hfz21_1
    try clear hfz21_2
    try clear hfz23_0
    try clear hfz23_1
    try clear hfz23_2
    try clear hfz24_0
    try clear hfz24_1
    try clear hfz26_0
    try clear hfz26_1
    try clear hfz26_2
    try clear hfz27_0
    try clear hfz27_1
    try clear hfz27_2
    try clear hfz28_0
    try clear hfz28_1
    try clear hfz30_0
    try clear hfz30_1
    try clear hfz30_2
    try clear hfz31_0
    try clear hfz31_1
    try clear hfz31_2
    try clear hfz32_0
    try clear hfz32_1
    try clear hfz38_0
    try clear hfz38_1
    try clear hfz39_0
    try clear hfz39_1
    try clear hfz39_2
    try clear hfz40_0
    try clear hfz40_1
    try clear hfz40_2
    try clear hfz41_0
    try clear hfz41_1
    try clear hfz429_0
    try clear hfz429_1
    try clear hfz429_2
    try clear hfz438_0
    try clear hfz438_1
    try clear hfz438_2
    try clear hfz446_0
    try clear hfz446_1
    try clear hfz446_2
    try clear hfz448_0
    try clear hfz448_1
    try clear hfz448_2
    try clear hfz449_0
    try clear hfz449_1
    try clear hfz449_2
    try clear hfz450_0
    try clear hfz450_1
    try clear hfz450_2
    try clear hfz48_0
    try clear hfz48_1
    try clear hfz49_0
    try clear hfz49_1
    try clear hfz49_2
    try clear hfz50_0
    try clear hfz50_1
    try clear hfz50_2
    try clear hfz58_0
    try clear hfz58_1
    try clear hfz58_2
    try clear hfz59_0
    try clear hfz59_1
    try clear hfz59_2
    try clear hfz60_0
    try clear hfz60_1
    try clear hfz60_2
    try clear hfz69_0
    try clear hfz69_1
    try clear hfz69_2
    try clear hfz70_0
    try clear hfz70_1
    try clear hfz70_2
    try clear hfz71_0
    try clear hfz71_1
    try clear hfz71_2
    try clear hfz73_0
    try clear hfz73_1
    try clear hfz73_2
    try clear hfz74_0
    try clear hfz74_1
    try clear hfz74_2
    obtain ⟨kq, HA, HJ456, BK537, BK549, BK553, HB⟩ := hcut
    exact laws_FnHandsAhead.rest6 HR0 HC0 HR1 HC1 A3 A5 A6 A7 A8 A9 A10 A11 A12 A13 GW535 GE535 GW536 GE536 NB535_536 LT535_536 NB536_535 GW537 GE537 NB535_537 LT535_537 NB537_535 NB536_537 LT536_537 NB537_536 GW549 GE549 NB535_549 LT535_549 NB549_535 NB536_549 LT536_549 NB549_536 NB537_549 LT537_549 NB549_537 GW553 GE553 NB535_553 LT535_553 NB553_535 NB536_553 LT536_553 NB553_536 NB537_553 LT537_553 NB553_537 NB549_553 LT549_553 NB553_549 GW558 GE558 NB535_558 LT535_558 NB558_535 NB536_558 LT536_558 NB558_536 NB537_558 LT537_558 NB558_537 NB549_558 LT549_558 NB558_549 NB553_558 LT553_558 NB558_553 GW563 GE563 NB535_563 LT535_563 NB563_535 NB536_563 LT536_563 NB563_536 NB537_563 LT537_563 NB563_537 NB549_563 LT549_563 NB563_549 NB553_563 LT553_563 NB563_553 NB558_563 LT558_563 NB563_558 HJ13 HJ193 HJ273 HJ334 A412 A413 A414 GW605 GE605 NB537_605 LT537_605 NB605_537 NB549_605 LT549_605 NB605_549 NB553_605 LT553_605 NB605_553 GW606 GE606 NB537_606 LT537_606 NB606_537 NB549_606 LT549_606 NB606_549 NB553_606 LT553_606 NB606_553 NB605_606 LT605_606 NB606_605 GW607 GE607 NB537_607 LT537_607 NB607_537 NB549_607 LT549_607 NB607_549 NB553_607 LT553_607 NB607_553 NB605_607 LT605_607 NB607_605 NB606_607 LT606_607 NB607_606 HJ414 HA HJ456 BK537 BK549 BK553 HB _ (fun a w h_ => by go_step; exact cut_lit h_ rfl)

end Go.Proofs.Ytoneipoioiokcab.PFnHandsAhead
