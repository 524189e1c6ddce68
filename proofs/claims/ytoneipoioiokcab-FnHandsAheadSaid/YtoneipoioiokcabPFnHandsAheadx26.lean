/- A part of the walk of FnHandsAhead: which Lean function each Go function comes to, and that the machine's call does so. Written by a program of this repo (wip/gen/xprint.py). -/
import Derived.Test.YtoneipoioiokcabPFnHandsAheadx24
import Derived.Test.YtoneipoioiokcabPFnHandsAheadx25
namespace Go.Proofs.Ytoneipoioiokcab.PFnHandsAhead
open Go.RowKit Go.Proofs.YtoneipoioiokcabW.PrintWords Go.Proofs.YtoneipoioiokcabW.PrintLast Go.Proofs.YtoneipoioiokcabW.PrintMore
attribute [local go_sem] max2_int min2_int max_two min_two max_three min_three max_four min_four   -- for this text's walks alone
set_option linter.unusedVariables false
set_option linter.unusedSimpArgs false
attribute [local go_sem high] eqA25 eqA27
set_option maxHeartbeats 8000000 in
set_option maxRecDepth 100000 in
theorem laws_FnHandsAhead.rest6 {s63 s64 s65 s66 s67 s68 s69 s70 s71 s72 s73 s74 s75 s76 s77 s78 s79 s80 s81 s82 s83 s84 s85 s86 s87 s88 s89 s90 s91 s92 s93 s94 s95 s96 s97 s98 s99 s100 s101 s102 s103 s104 s105 s106 s107 s108 s109 s110 s111 s112 s113 s114 s115 s116 s117 s118 s119 s120 s121 s122 s123 s124 s125 s126 s127 s128 s129 s130 s131 s132 s133 s134 s135 s136 s137 s138 s139 s140 s141 s142 s143 s144 s145 s146 s147 s148 s149 s150 s151 s152 s153 s154 s155 s156 s157 s158 s159 s160 s161 s162 s163 s164 s165 s166 s167 s168 s169 s170 s171 s172 s173 s174 s175 s176 s177 s178 s179 s180 s181 s182 s183 s184 s185 s186 s187 s188 s189 s190 s191 s192 s193 s194 s195 s196 s197 s198 s199 s200 s201 s202 s203 s204 s205 s206 s207 s208 s209 s210 s211 s212 s213 s214 s215 s216 s217 s218 s219 s220 s221 s222 s223 s224 s225 s226 s227 s228 s229 s230 s231 s232 s233 s234 s235 s236 s237 s238 s239 s240 s241 s242 s243 s244 s245 s246 s247 s248 s249 s250 s251 s252 s253 s254 s255 s256 s257 s258 s259 s260 s261 s262 s263 s264 s265 s266 s267 s268 s269 s270 s271 s272 s273 s274 s275 s276 s277 s278 s279 s280 s281 s282 s283 s284 s285 s286 s287 s288 s289 s290 s291 s292 s293 s294 s295 s296 s297 s298 s299 s300 s301 s302 s303 s304 s305 s306 s307 s308 s309 s310 s311 s312 s313 s314 s315 s316 s317 s318 s319 s320 s321 s322 s323 s324 s325 s326 s327 s328 s329 s330 s331 s332 s333 s334 s335 s336 s337 s338 s339 s340 s341 s342 s343 s344 s345 s346 s347 s348 s349 s350 s351 s352 s353 s354 s355 s356 s357 s358 s359 s360 s361 s362 s363 s364 s365 s366 s367 s368 s369 s370 s371 s372 s373 s374 s375 s376 s377 s378 s379 s380 s381 s382 s383 s384 s385 s386 s387 s388 s389 s390 s391 s392 s393 s394 s395 s396 s397 s398 s399 s400 s401 s402 s403 s404 s405 s406 s407 s408 s409 s410 s411 s412 s413 s414 s415 s416 s417 : Value} {k : Nat} {A0 : Option Addr} {c0 : Nat} {l0 : List Int} {A1 : Option Addr} {c1 : Nat} {l1 : List Int} {w : World} {t527 t528 t529 t530 t531 t532 t533 t534 : Int} {t538 : List S25} {t541 : Bool} {t542 : List S25} {t545 : Bool} {t546 t547 : Int} {t548 : Bool} {t550 t551 : Int} {t552 : Bool} {t554 t555 t556 : Int} {t557 : Bool} {t559 t560 t561 : Int} {t562 : Bool} {t564 : List S25} {t567 : Bool} {t568 : List S25} {t571 : Bool} {gb535 gb536 gb537 : Nat} {v539 v543 : Value} {gb549 gb553 gb558 gb563 : Nat} {v565 v569 : Value} {kj13 : Nat} {u25 u26 u27 : Value} {kj193 : Nat} {u29 u30 u31 u32 u33 : Value} {kj273 : Nat} {u34 u35 : Value} {kj334 : Nat} {t596 t597 t598 t599 t600 t601 t602 t603 t604 : Int} {t608 : List S25} {t611 : Bool} {t612 : List S25} {t615 : Bool} {gb605 gb606 gb607 : Nat} {v609 v613 : Value} {kj414 : Nat} {wc : World} {u4 u43 u44 u46 u47 u48 : Value} {kq : Nat} (HR0 : Aside0 ((Kd.int IntKind.u8).C w A0 l0.length l0)) (HC0 : Aside0 (l0.length ≤ c0)) (HR1 : Aside0 ((Kd.int IntKind.u8).C w A1 l1.length l1)) (HC1 : Aside0 (l1.length ≤ c1)) (A3 : Aside0 (laws_big.f l0 l1 = some false)) (A5 : Aside0 (spec_DrawAheadTimes.f k l0 = some (t527, t528, t529, t530, t531, t532, t533, t534))) (A6 : Aside0 (impl_AheadTimes.f k t527 t528 t529 t530 t531 t532 t533 t534 = some (t538, t541))) (A7 : Aside0 (spec_AheadTimes.f k t527 t528 t529 t530 t531 t532 t533 t534 = some (t542, t545))) (A8 : Aside0 (impl_AheadAt.f k t527 t528 t529 t530 t531 t532 t533 t534 = some (t546, t547, t548))) (A9 : Aside0 (spec_AheadAt.f k t527 t528 t529 t530 t531 t532 t533 t534 = some (t550, t551, t552))) (A10 : Aside0 (impl_RelativeHand.f k t527 t528 t529 t530 t531 t532 = some (t554, t555, t556, t557))) (A11 : Aside0 (spec_RelativeHand.f k t527 t528 t529 t530 t531 t532 = some (t559, t560, t561, t562))) (A12 : Aside0 (impl_OppositeTimes.f k t527 t528 t529 t530 t531 t532 = some (t564, t567))) (A13 : Aside0 (spec_OppositeTimes.f k t527 t528 t529 t530 t531 t532 = some (t568, t571))) (GW535 : Aside0 (w.heap.size ≤ gb535)) (GE535 : Aside0 (w.heap.size ≤ gb535)) (GW536 : Aside0 (w.heap.size ≤ gb536)) (GE536 : Aside0 (w.heap.size ≤ gb536)) (NB535_536 : Aside0 (gb535 ≠ gb536)) (LT535_536 : Aside0 (gb535 < gb536)) (NB536_535 : Aside0 (gb536 ≠ gb535)) (GW537 : Aside0 (w.heap.size ≤ gb537)) (GE537 : Aside0 (w.heap.size ≤ gb537)) (NB535_537 : Aside0 (gb535 ≠ gb537)) (LT535_537 : Aside0 (gb535 < gb537)) (NB537_535 : Aside0 (gb537 ≠ gb535)) (NB536_537 : Aside0 (gb536 ≠ gb537)) (LT536_537 : Aside0 (gb536 < gb537)) (NB537_536 : Aside0 (gb537 ≠ gb536)) (GW549 : Aside0 (w.heap.size ≤ gb549)) (GE549 : Aside0 (w.heap.size ≤ gb549)) (NB535_549 : Aside0 (gb535 ≠ gb549)) (LT535_549 : Aside0 (gb535 < gb549)) (NB549_535 : Aside0 (gb549 ≠ gb535)) (NB536_549 : Aside0 (gb536 ≠ gb549)) (LT536_549 : Aside0 (gb536 < gb549)) (NB549_536 : Aside0 (gb549 ≠ gb536)) (NB537_549 : Aside0 (gb537 ≠ gb549)) (LT537_549 : Aside0 (gb537 < gb549)) (NB549_537 : Aside0 (gb549 ≠ gb537)) (GW553 : Aside0 (w.heap.size ≤ gb553)) (GE553 : Aside0 (w.heap.size ≤ gb553)) (NB535_553 : Aside0 (gb535 ≠ gb553)) (LT535_553 : Aside0 (gb535 < gb553)) (NB553_535 : Aside0 (gb553 ≠ gb535)) (NB536_553 : Aside0 (gb536 ≠ gb553)) (LT536_553 : Aside0 (gb536 < gb553)) (NB553_536 : Aside0 (gb553 ≠ gb536)) (NB537_553 : Aside0 (gb537 ≠ gb553)) (LT537_553 : Aside0 (gb537 < gb553)) (NB553_537 : Aside0 (gb553 ≠ gb537)) (NB549_553 : Aside0 (gb549 ≠ gb553)) (LT549_553 : Aside0 (gb549 < gb553)) (NB553_549 : Aside0 (gb553 ≠ gb549)) (GW558 : Aside0 (w.heap.size ≤ gb558)) (GE558 : Aside0 (w.heap.size ≤ gb558)) (NB535_558 : Aside0 (gb535 ≠ gb558)) (LT535_558 : Aside0 (gb535 < gb558)) (NB558_535 : Aside0 (gb558 ≠ gb535)) (NB536_558 : Aside0 (gb536 ≠ gb558)) (LT536_558 : Aside0 (gb536 < gb558)) (NB558_536 : Aside0 (gb558 ≠ gb536)) (NB537_558 : Aside0 (gb537 ≠ gb558)) (LT537_558 : Aside0 (gb537 < gb558)) (NB558_537 : Aside0 (gb558 ≠ gb537)) (NB549_558 : Aside0 (gb549 ≠ gb558)) (LT549_558 : Aside0 (gb549 < gb558)) (NB558_549 : Aside0 (gb558 ≠ gb549)) (NB553_558 : Aside0 (gb553 ≠ gb558)) (LT553_558 : Aside0 (gb553 < gb558)) (NB558_553 : Aside0 (gb558 ≠ gb553)) (GW563 : Aside0 (w.heap.size ≤ gb563)) (GE563 : Aside0 (w.heap.size ≤ gb563)) (NB535_563 : Aside0 (gb535 ≠ gb563)) (LT535_563 : Aside0 (gb535 < gb563)) (NB563_535 : Aside0 (gb563 ≠ gb535)) (NB536_563 : Aside0 (gb536 ≠ gb563)) (LT536_563 : Aside0 (gb536 < gb563)) (NB563_536 : Aside0 (gb563 ≠ gb536)) (NB537_563 : Aside0 (gb537 ≠ gb563)) (LT537_563 : Aside0 (gb537 < gb563)) (NB563_537 : Aside0 (gb563 ≠ gb537)) (NB549_563 : Aside0 (gb549 ≠ gb563)) (LT549_563 : Aside0 (gb549 < gb563)) (NB563_549 : Aside0 (gb563 ≠ gb549)) (NB553_563 : Aside0 (gb553 ≠ gb563)) (LT553_563 : Aside0 (gb553 < gb563)) (NB563_553 : Aside0 (gb563 ≠ gb553)) (NB558_563 : Aside0 (gb558 ≠ gb563)) (LT558_563 : Aside0 (gb558 < gb563)) (NB563_558 : Aside0 (gb563 ≠ gb558)) (HJ13 : Aside0 (kj13 + 1 ≤ k)) (HJ193 : Aside0 (kj193 + 1 ≤ kj13)) (HJ273 : Aside0 (kj273 + 1 ≤ kj193)) (HJ334 : Aside0 (kj334 + 1 ≤ kj273)) (A412 : Aside0 (spec_DrawThreeMeet.f kj334 l1 = some (t596, t597, t598, t599, t600, t601, t602, t603, t604))) (A413 : Aside0 (impl_ThreeMeet.f kj334 t596 t597 t598 t599 t600 t601 t602 t603 t604 = some (t608, t611))) (A414 : Aside0 (spec_ThreeMeet.f kj334 t596 t597 t598 t599 t600 t601 t602 t603 t604 = some (t612, t615))) (GW605 : Aside0 (w.heap.size ≤ gb605)) (GE605 : Aside0 (w.heap.size ≤ gb605)) (NB537_605 : Aside0 (gb537 ≠ gb605)) (LT537_605 : Aside0 (gb537 < gb605)) (NB605_537 : Aside0 (gb605 ≠ gb537)) (NB549_605 : Aside0 (gb549 ≠ gb605)) (LT549_605 : Aside0 (gb549 < gb605)) (NB605_549 : Aside0 (gb605 ≠ gb549)) (NB553_605 : Aside0 (gb553 ≠ gb605)) (LT553_605 : Aside0 (gb553 < gb605)) (NB605_553 : Aside0 (gb605 ≠ gb553)) (GW606 : Aside0 (w.heap.size ≤ gb606)) (GE606 : Aside0 (w.heap.size ≤ gb606)) (NB537_606 : Aside0 (gb537 ≠ gb606)) (LT537_606 : Aside0 (gb537 < gb606)) (NB606_537 : Aside0 (gb606 ≠ gb537)) (NB549_606 : Aside0 (gb549 ≠ gb606)) (LT549_606 : Aside0 (gb549 < gb606)) (NB606_549 : Aside0 (gb606 ≠ gb549)) (NB553_606 : Aside0 (gb553 ≠ gb606)) (LT553_606 : Aside0 (gb553 < gb606)) (NB606_553 : Aside0 (gb606 ≠ gb553)) (NB605_606 : Aside0 (gb605 ≠ gb606)) (LT605_606 : Aside0 (gb605 < gb606)) (NB606_605 : Aside0 (gb606 ≠ gb605)) (GW607 : Aside0 (w.heap.size ≤ gb607)) (GE607 : Aside0 (w.heap.size ≤ gb607)) (NB537_607 : Aside0 (gb537 ≠ gb607)) (LT537_607 : Aside0 (gb537 < gb607)) (NB607_537 : Aside0 (gb607 ≠ gb537)) (NB549_607 : Aside0 (gb549 ≠ gb607)) (LT549_607 : Aside0 (gb549 < gb607)) (NB607_549 : Aside0 (gb607 ≠ gb549)) (NB553_607 : Aside0 (gb553 ≠ gb607)) (LT553_607 : Aside0 (gb553 < gb607)) (NB607_553 : Aside0 (gb607 ≠ gb553)) (NB605_607 : Aside0 (gb605 ≠ gb607)) (LT605_607 : Aside0 (gb605 < gb607)) (NB607_605 : Aside0 (gb607 ≠ gb605)) (NB606_607 : Aside0 (gb606 ≠ gb607)) (LT606_607 : Aside0 (gb606 < gb607)) (NB607_606 : Aside0 (gb607 ≠ gb606)) (HJ414 : Aside0 (kj414 + 1 ≤ kj334)) (HA : Aside0 (j9 kq l1 = some true)) (HJ456 : Aside0 (kq ≤ kj414)) (BK537 : Aside0 (wc.heap[gb537]? = some (Obj.cells #[Value.int IntKind.i64 t533, Value.int IntKind.i64 t534] 25))) (BK549 : Aside0 (wc.heap[gb549]? = some (Obj.cells #[Value.int IntKind.i64 t546, Value.int IntKind.i64 t547] 25))) (BK553 : Aside0 (wc.heap[gb553]? = some (Obj.cells #[Value.int IntKind.i64 t550, Value.int IntKind.i64 t551] 25))) (HB : Aside0 (Below w.heap.size w wc)) : let K1_ : Exit → Act → World → Prop := bodyPost Try.prog Try.f3 fun (e : Ending) (w' : World) => e = Ending.returned (Value.bool true) ∧ Below w.heap.size w w'; ∀ (K3_ : Act → World → Prop), (∀ (a : Go.Act) (w : Go.World), Go.Code.wp Try.prog ((cutAt Try.f3 [2, 2, 2, 2, 2, 2, 2, 2, 2, 2, 2, 2, 2, 2, 2, 2, 2, 2, 2, 2]).getD .skip) (K1_) a w → K3_ a w) → K3_ { tmps := #[Value.slice A0 l0.length c0, Value.slice A1 l1.length c1, undef, undef, u4, Value.pointer (some { block := gb535, off := 0 }), Value.pointer (some { block := gb536, off := 0 }), Value.pointer (some { block := gb537, off := 0 }), v539, Value.bool t541, v543, Value.bool t545, Value.pointer (some { block := gb549, off := 0 }), Value.bool t548, Value.pointer (some { block := gb553, off := 0 }), Value.bool t552, Value.pointer (some { block := gb558, off := 0 }), Value.bool t557, Value.pointer (some { block := gb563, off := 0 }), Value.bool t562, v565, Value.bool t567, v569, Value.bool t571, undef, u25, u26, u27, undef, u29, u30, u31, u32, u33, u34, u35, Value.pointer (some { block := gb605, off := 0 }), Value.pointer (some { block := gb606, off := 0 }), Value.pointer (some { block := gb607, off := 0 }), v609, Value.bool t611, v613, Value.bool t615, u43, u44, undef, u46, u47, u48, undef, undef, undef, undef, undef, undef, undef, undef, undef, undef, undef, undef, undef, undef, s63, s64, s65, s66, s67, s68, s69, s70, s71, s72, s73, s74, s75, s76, s77, s78, s79, s80, s81, s82, s83, s84, s85, s86, s87, s88, s89, s90, s91, s92, s93, s94, s95, s96, s97, s98, s99, s100, s101, s102, s103, s104, s105, s106, s107, s108, s109, s110, s111, s112, s113, s114, s115, s116, s117, s118, s119, s120, s121, s122, s123, s124, s125, s126, s127, s128, s129, s130, s131, s132, s133, s134, s135, s136, s137, s138, s139, s140, s141, s142, s143, s144, s145, s146, s147, s148, s149, s150, s151, s152, s153, s154, s155, s156, s157, s158, s159, s160, s161, s162, s163, s164, s165, s166, s167, s168, s169, s170, s171, s172, s173, s174, s175, s176, s177, s178, s179, s180, s181, s182, s183, s184, s185, s186, s187, s188, s189, s190, s191, s192, s193, s194, s195, s196, s197, s198, s199, s200, s201, s202, s203, s204, s205, s206, s207, s208, s209, s210, s211, s212, s213, s214, s215, s216, s217, s218, s219, s220, s221, s222, s223, s224, s225, s226, s227, s228, s229, s230, s231, s232, s233, s234, s235, s236, s237, s238, s239, s240, s241, s242, s243, s244, s245, s246, s247, s248, s249, s250, s251, s252, s253, s254, s255, s256, s257, s258, s259, s260, s261, s262, s263, s264, s265, s266, s267, s268, s269, s270, s271, s272, s273, s274, s275, s276, s277, s278, s279, s280, s281, s282, s283, s284, s285, s286, s287, s288, s289, s290, s291, s292, s293, s294, s295, s296, s297, s298, s299, s300, s301, s302, s303, s304, s305, s306, s307, s308, s309, s310, s311, s312, s313, s314, s315, s316, s317, s318, s319, s320, s321, s322, s323, s324, s325, s326, s327, s328, s329, s330, s331, s332, s333, s334, s335, s336, s337, s338, s339, s340, s341, s342, s343, s344, s345, s346, s347, s348, s349, s350, s351, s352, s353, s354, s355, s356, s357, s358, s359, s360, s361, s362, s363, s364, s365, s366, s367, s368, s369, s370, s371, s372, s373, s374, s375, s376, s377, s378, s379, s380, s381, s382, s383, s384, s385, s386, s387, s388, s389, s390, s391, s392, s393, s394, s395, s396, s397, s398, s399, s400, s401, s402, s403, s404, s405, s406, s407, s408, s409, s410, s411, s412, s413, s414, s415, s416, s417], defers := [] } wc := by
  intro K1_ K3_ hK1_
  replace hK1_ := cut_open hK1_ rfl
  (try dsimp only)
  cases kq with
  | zero => exact absurd HA.1 (by simp [laws_FnHandsAhead.j9])
  | succ kj456 =>
    have H := HA.1
    clear HA
    simp only [laws_FnHandsAhead.j9] at H
    replace H := Option.bind_eq_some_iff.mp H
    obtain ⟨⟨t629, t630, t631, t632, t633⟩, A5910, H⟩ := H
    (try dsimp only at H)
    have A591 := Aside0.mk A5910
    clear A5910
    replace H := Option.bind_eq_some_iff.mp H
    obtain ⟨⟨t636, t639⟩, A5920, H⟩ := H
    (try dsimp only at H)
    have A592 := Aside0.mk A5920
    clear A5920
    replace H := Option.bind_eq_some_iff.mp H
    obtain ⟨⟨t640, t643⟩, A5930, H⟩ := H
    (try dsimp only at H)
    have A593 := Aside0.mk A5930
    clear A5930
    replace H := Option.bind_eq_some_iff.mp H
    obtain ⟨⟨t644, t645, t646⟩, A5940, H⟩ := H
    (try dsimp only at H)
    have A594 := Aside0.mk A5940
    clear A5940
    replace H := Option.bind_eq_some_iff.mp H
    obtain ⟨⟨t648, t649, t650⟩, A5950, H⟩ := H
    (try dsimp only at H)
    have A595 := Aside0.mk A5950
    clear A5950
    have HC596 := Aside0.mk H
    clear H
    go_upto_region 60 with (first | ((with_reducible refine gate_callee (f := 23) rfl ?_); refine gl (some 340) Try.func23 #[.slice A1 l1.length c1] ?_; (with_reducible refine (spec_DrawTimesAtPlace.calls kj456 _ _ l1 t629 t630 t631 t632 t633 _ ?side1 ?side2 A591.1).mono ?_); (case side1 => repeat (first | exact (Kd.C_below HR1.1 HB.1) | (with_reducible refine Kd.C_alloc ?_ _) | (with_reducible refine Kd.C_drewN ?_ _) | (with_reducible refine Kd.C_drew ?_))); (case side2 => exact HC1.1); rintro e w597 ⟨rfl, hb⟩; refine ⟨_, rfl, ?_⟩; replace BK537 := zb BK537 hb; replace BK549 := zb BK549 hb; replace BK553 := zb BK553 hb; replace HB := zB HB hb; clear hb) | ((with_reducible refine gate_dst (N := 49) rfl ?_); (try (refine gate_guard (by rfl) ?_; dsimp only)); refine be #[.int .i64 0, .int .i64 0, .int .i64 0] 27 ?_; intro gb634 hg w598 hbox hb; have BK634 := Aside0.mk hbox; have GW634 := zs HB hg; have GE634 := zs HB hg; have NB537_634 := zn BK537 hg; have LT537_634 := zo BK537 hg; have NB634_537 := zm BK537 hg; have NB549_634 := zn BK549 hg; have LT549_634 := zo BK549 hg; have NB634_549 := zm BK549 hg; have NB553_634 := zn BK553 hg; have LT553_634 := zo BK553 hg; have NB634_553 := zm BK553 hg; replace BK537 := zb BK537 hb; replace BK549 := zb BK549 hb; replace BK553 := zb BK553 hb; replace HB := zB HB hb; clear hb hbox hg) | ((with_reducible refine gate_dst (N := 50) rfl ?_); (try (refine gate_guard (by rfl) ?_; dsimp only)); refine be #[.int .i64 0, .int .i64 0] 25 ?_; intro gb635 hg w599 hbox hb; have BK635 := Aside0.mk hbox; have GW635 := zs HB hg; have GE635 := zs HB hg; have NB537_635 := zn BK537 hg; have LT537_635 := zo BK537 hg; have NB635_537 := zm BK537 hg; have NB549_635 := zn BK549 hg; have LT549_635 := zo BK549 hg; have NB635_549 := zm BK549 hg; have NB553_635 := zn BK553 hg; have LT553_635 := zo BK553 hg; have NB635_553 := zm BK553 hg; have NB634_635 := zn BK634 hg; have LT634_635 := zo BK634 hg; have NB635_634 := zm BK634 hg; replace BK537 := zb BK537 hb; replace BK549 := zb BK549 hb; replace BK553 := zb BK553 hb; replace BK634 := zb BK634 hb; replace HB := zB HB hb; clear hb hbox hg; have hnc602 := LT537_634.1; have hnc603 := LT549_634.1; have hnc604 := LT553_634.1; have hnb610 := LT634_635.1; obtain ⟨hcz611_0, hcz611_1, hcz611_2, hfz611_0, hfz611_1, hfz611_2⟩ := zc3 BK634; have hnc614 := LT537_635.1; have hnc615 := LT549_635.1; have hnc616 := LT553_635.1; obtain ⟨hcz622_0, hcz622_1, hfz622_0, hfz622_1⟩ := zc2 BK635) | ((with_reducible refine gate_callee (f := 24) rfl ?_); refine gl (some 346) Try.func24 #[.agg #[.int .i64 t629, .int .i64 t630, .int .i64 t631], .agg #[.int .i64 t632, .int .i64 t633]] ?_; (with_reducible refine (impl_TimesAtPlace.calls kj456 t629 t630 t631 t632 t633 t636 t639 _ A592.1).mono ?_); rintro e w623 ⟨v637, rfl, ho0, hb⟩; refine ⟨_, rfl, ?_⟩; have HO638 := Aside0.mk (Kd.R_lower (Kd.R_newB (Kd.R_newB (Kd.R_newB (Kd.R_newB ho0 (g := gb537) (o := .cells #[.int .i64 t533, .int .i64 t534] 25 (0, 0)) (bk BK537)) (g := gb549) (o := .cells #[.int .i64 t546, .int .i64 t547] 25 (0, 0)) (bk BK549)) (g := gb553) (o := .cells #[.int .i64 t550, .int .i64 t551] 25 (0, 0)) (bk BK553)) (g := gb635) (o := .cells #[.int .i64 t632, .int .i64 t633] 25 (0, 0)) (bk BK635)) (below_size (bq HB))); replace BK537 := zy (o' := .cells #[.int .i64 t533, .int .i64 t534] 25 (0, 0)) BK537 hb; replace BK549 := zy (o' := .cells #[.int .i64 t546, .int .i64 t547] 25 (0, 0)) BK549 hb; replace BK553 := zy (o' := .cells #[.int .i64 t550, .int .i64 t551] 25 (0, 0)) BK553 hb; replace BK634 := zy (o' := .cells #[.int .i64 t629, .int .i64 t630, .int .i64 t631] 27 (0, 0)) BK634 hb; replace BK635 := zy (o' := .cells #[.int .i64 t632, .int .i64 t633] 25 (0, 0)) BK635 hb; replace HB := zB HB hb; (try clear hb); (try clear hb2); (try clear hk); (try clear hi); (try clear ho0); obtain ⟨hcz624_0, hcz624_1, hcz624_2, hfz624_0, hfz624_1, hfz624_2⟩ := zc3 BK634; obtain ⟨hcz625_0, hcz625_1, hfz625_0, hfz625_1⟩ := zc2 BK635) | ((with_reducible refine gate_callee (f := 25) rfl ?_); refine gl (some 352) Try.func25 #[.agg #[.int .i64 t629, .int .i64 t630, .int .i64 t631], .agg #[.int .i64 t632, .int .i64 t633]] ?_; (with_reducible refine (spec_TimesAtPlace.calls kj456 t629 t630 t631 t632 t633 t640 t643 _ A593.1).mono ?_); rintro e w626 ⟨v641, rfl, ho0, hb⟩; refine ⟨_, rfl, ?_⟩; have HO642 := Aside0.mk (Kd.R_lower (Kd.R_newB (Kd.R_newB (Kd.R_newB (Kd.R_newB (Kd.R_new' ho0 (Kd.R_lt (rq HO638))) (g := gb537) (o := .cells #[.int .i64 t533, .int .i64 t534] 25 (0, 0)) (bk BK537)) (g := gb549) (o := .cells #[.int .i64 t546, .int .i64 t547] 25 (0, 0)) (bk BK549)) (g := gb553) (o := .cells #[.int .i64 t550, .int .i64 t551] 25 (0, 0)) (bk BK553)) (g := gb635) (o := .cells #[.int .i64 t632, .int .i64 t633] 25 (0, 0)) (bk BK635)) (below_size (bq HB))); replace HO638 := Aside0.mk (Kd.R_elder' (rq HO638) (Kd.R_base ho0) hb); replace BK537 := zb BK537 hb; replace BK549 := zb BK549 hb; replace BK553 := zb BK553 hb; replace BK634 := zb BK634 hb; replace BK635 := zb BK635 hb; replace HB := zB HB hb; (try clear hb); (try clear hb2); (try clear hk); (try clear hi); (try clear ho0); obtain ⟨hcz627_0, hcz627_1, hcz627_2, hfz627_0, hfz627_1, hfz627_2⟩ := zc3 BK634; obtain ⟨hcz628_0, hcz628_1, hfz628_0, hfz628_1⟩ := zc2 BK635) | ((with_reducible refine gate_callee (f := 17) rfl ?_); refine gl (some 358) Try.func17 #[.agg #[.int .i64 t629, .int .i64 t630, .int .i64 t631], .agg #[.int .i64 t632, .int .i64 t633]] ?_; (with_reducible refine (impl_HandAt.calls kj456 t629 t630 t631 t632 t633 t644 t645 t646 _ A594.1).mono ?_); rintro e w629 ⟨rfl, hb⟩; refine ⟨_, rfl, ?_⟩; replace HO638 := rB HO638 hb; replace HO642 := rB HO642 hb; replace BK537 := zb BK537 hb; replace BK549 := zb BK549 hb; replace BK553 := zb BK553 hb; replace BK634 := zb BK634 hb; replace BK635 := zb BK635 hb; replace HB := zB HB hb; clear hb) | ((with_reducible refine gate_dst (N := 55) rfl ?_); (try (refine gate_guard (by rfl) ?_; dsimp only)); refine be #[.int .i64 0, .int .i64 0] 25 ?_; intro gb647 hg w630 hbox hb; replace HO638 := Aside0.mk (Kd.R_below (Kd.R_elderB (rq HO638) gb647 (Nat.le_of_eq hg.symm)) hb); replace HO642 := Aside0.mk (Kd.R_below (Kd.R_elderB (rq HO642) gb647 (Nat.le_of_eq hg.symm)) hb); have BK647 := Aside0.mk hbox; have GW647 := zs HB hg; have GE647 := zs HB hg; have NB537_647 := zn BK537 hg; have LT537_647 := zo BK537 hg; have NB647_537 := zm BK537 hg; have NB549_647 := zn BK549 hg; have LT549_647 := zo BK549 hg; have NB647_549 := zm BK549 hg; have NB553_647 := zn BK553 hg; have LT553_647 := zo BK553 hg; have NB647_553 := zm BK553 hg; have NB634_647 := zn BK634 hg; have LT634_647 := zo BK634 hg; have NB647_634 := zm BK634 hg; have NB635_647 := zn BK635 hg; have LT635_647 := zo BK635 hg; have NB647_635 := zm BK635 hg; replace BK537 := zb BK537 hb; replace BK549 := zb BK549 hb; replace BK553 := zb BK553 hb; replace BK634 := zb BK634 hb; replace BK635 := zb BK635 hb; replace HB := zB HB hb; clear hb hbox hg; have hnc633 := LT537_647.1; have hnc634 := LT549_647.1; have hnc635 := LT553_647.1; have hnc641 := LT634_647.1; have hnc642 := LT635_647.1; obtain ⟨hcz643_0, hcz643_1, hfz643_0, hfz643_1⟩ := zc2 BK647; obtain ⟨hcz644_0, hcz644_1, hcz644_2, hfz644_0, hfz644_1, hfz644_2⟩ := zc3 BK634; obtain ⟨hcz645_0, hcz645_1, hfz645_0, hfz645_1⟩ := zc2 BK635) | ((with_reducible refine gate_callee (f := 26) rfl ?_); refine gl (some 364) Try.func26 #[.agg #[.int .i64 t629, .int .i64 t630, .int .i64 t631], .agg #[.int .i64 t632, .int .i64 t633]] ?_; (with_reducible refine (spec_HandAt.calls kj456 t629 t630 t631 t632 t633 t648 t649 t650 _ A595.1).mono ?_); rintro e w646 ⟨rfl, hb⟩; refine ⟨_, rfl, ?_⟩; replace HO638 := Aside0.mk (Kd.R_below (by (with_reducible repeat (first | apply Kd.R_alloc | apply Kd.R_drewN | apply Kd.R_drew)); exact (Kd.R_mono (Kd.R_far (p := ⟨gb647, 1, none⟩) (Kd.R_far (p := ⟨gb647, 0, none⟩) (Kd.R_mono HO638.1 (fun k_ hk => (⟨hk, hk.2⟩ : _ ∧ k_ ≠ gb647))) (fun _ hk => hk.2) (.int .i64 t644)) (fun _ hk => hk.2) (.int .i64 t645)) (fun _ h_ => h_.1))) hb); replace HO642 := Aside0.mk (Kd.R_below (by (with_reducible repeat (first | apply Kd.R_alloc | apply Kd.R_drewN | apply Kd.R_drew)); exact (Kd.R_mono (Kd.R_far (p := ⟨gb647, 1, none⟩) (Kd.R_far (p := ⟨gb647, 0, none⟩) (Kd.R_mono HO642.1 (fun k_ hk => (⟨hk, hk.2⟩ : _ ∧ k_ ≠ gb647))) (fun _ hk => hk.2) (.int .i64 t644)) (fun _ hk => hk.2) (.int .i64 t645)) (fun _ h_ => h_.1))) hb); replace BK537 := zy (o' := .cells #[.int .i64 t533, .int .i64 t534] 25 (0, 0)) BK537 hb; replace BK549 := zy (o' := .cells #[.int .i64 t546, .int .i64 t547] 25 (0, 0)) BK549 hb; replace BK553 := zy (o' := .cells #[.int .i64 t550, .int .i64 t551] 25 (0, 0)) BK553 hb; replace BK634 := zy (o' := .cells #[.int .i64 t629, .int .i64 t630, .int .i64 t631] 27 (0, 0)) BK634 hb; replace BK635 := zy (o' := .cells #[.int .i64 t632, .int .i64 t633] 25 (0, 0)) BK635 hb; replace BK647 := zy (o' := .cells #[.int .i64 t644, .int .i64 t645] 25 (0, 0)) BK647 hb; replace HB := zB HB hb; clear hb) | ((with_reducible refine gate_dst (N := 57) rfl ?_); (try (refine gate_guard (by rfl) ?_; dsimp only)); refine be #[.int .i64 0, .int .i64 0] 25 ?_; intro gb651 hg w647 hbox hb; replace HO638 := Aside0.mk (Kd.R_below (Kd.R_elderB (rq HO638) gb651 (Nat.le_of_eq hg.symm)) hb); replace HO642 := Aside0.mk (Kd.R_below (Kd.R_elderB (rq HO642) gb651 (Nat.le_of_eq hg.symm)) hb); have BK651 := Aside0.mk hbox; have GW651 := zs HB hg; have GE651 := zs HB hg; have NB537_651 := zn BK537 hg; have LT537_651 := zo BK537 hg; have NB651_537 := zm BK537 hg; have NB549_651 := zn BK549 hg; have LT549_651 := zo BK549 hg; have NB651_549 := zm BK549 hg; have NB553_651 := zn BK553 hg; have LT553_651 := zo BK553 hg; have NB651_553 := zm BK553 hg; have NB634_651 := zn BK634 hg; have LT634_651 := zo BK634 hg; have NB651_634 := zm BK634 hg; have NB635_651 := zn BK635 hg; have LT635_651 := zo BK635 hg; have NB651_635 := zm BK635 hg; have NB647_651 := zn BK647 hg; have LT647_651 := zo BK647 hg; have NB651_647 := zm BK647 hg; replace BK537 := zb BK537 hb; replace BK549 := zb BK549 hb; replace BK553 := zb BK553 hb; replace BK634 := zb BK634 hb; replace BK635 := zb BK635 hb; replace BK647 := zb BK647 hb; replace HB := zB HB hb; clear hb hbox hg; have hnc650 := LT537_651.1; have hnc651 := LT549_651.1; have hnc652 := LT553_651.1; have hnc658 := LT634_651.1; have hnc659 := LT635_651.1; have hnc660 := LT647_651.1; obtain ⟨hcz661_0, hcz661_1, hfz661_0, hfz661_1⟩ := zc2 BK651))
    (try simp only [Act.put, List.setIfInBounds_toArray, List.set_cons_zero, List.set_cons_succ])
    go_cut [385] from 367 to 385 (fun v385 wc => ∃ (kq : Nat) (x385_595 : Bool), v385 = .bool x385_595 ∧ Aside0 (laws_FnHandsAhead.j10 kq t636 t639 x385_595 t629 t630 t631 t632 t633 = some true) ∧ Aside0 (kq ≤ kj456) ∧ Aside0 (Kd.R k25 25 wc w.heap.size (fun k_ => k_ ≠ gb537 ∧ k_ ≠ gb549 ∧ k_ ≠ gb553 ∧ k_ ≠ gb635 ∧ k_ ≠ gb647 ∧ k_ ≠ gb651) v637 t636) ∧ Aside0 (wc.heap[gb537]? = some (.cells #[.int .i64 t533, .int .i64 t534] 25 (0, 0))) ∧ Aside0 (wc.heap[gb549]? = some (.cells #[.int .i64 t546, .int .i64 t547] 25 (0, 0))) ∧ Aside0 (wc.heap[gb553]? = some (.cells #[.int .i64 t550, .int .i64 t551] 25 (0, 0))) ∧ Aside0 (wc.heap[gb634]? = some (.cells #[.int .i64 t629, .int .i64 t630, .int .i64 t631] 27 (0, 0))) ∧ Aside0 (wc.heap[gb635]? = some (.cells #[.int .i64 t632, .int .i64 t633] 25 (0, 0))) ∧ Aside0 (wc.heap[gb647]? = some (.cells #[.int .i64 t644, .int .i64 t645] 25 (0, 0))) ∧ Aside0 (wc.heap[gb651]? = some (.cells #[.int .i64 t648, .int .i64 t649] 25 (0, 0))) ∧ Aside0 (Below w.heap.size w wc))
    case first =>
      have H := HC596.1
      clear HC596
      by_cases c662 : (t639 != t643) = true
      · rw [if_pos c662] at H
        exact (laws_FnHandsAhead.j10_no H).elim
      rw [if_neg c662] at H
      have c662b0 : (t639 != t643) = false := by simpa using c662
      (try (have c662b1 : decide (t639 = t643) = true := by simpa using c662))
      (try (have c662b2 : (t639 == t643) = true := by simpa using c662))
      clear c662
      (first | rw [c662b0] | (simp only [i64_w, i32_w]; rw [c662b0]) | skip)
      replace H := Option.bind_eq_some_iff.mp H
      obtain ⟨t652, A6630, H⟩ := H
      (try dsimp only at H)
      have A663 := Aside0.mk A6630
      clear A6630
      by_cases c664 : t652 = true
      · subst c664
        rw [if_pos rfl] at H
        by_cases c665 : (t646 != t650) = true
        · rw [if_pos c665] at H
          exact (laws_FnHandsAhead.j10_no H).elim
        rw [if_neg c665] at H
        have c665b0 : (t646 != t650) = false := by simpa using c665
        (try (have c665b1 : decide (t646 = t650) = true := by simpa using c665))
        (try (have c665b2 : (t646 == t650) = true := by simpa using c665))
        clear c665
        have H' := Aside0.mk H
        clear H
        obtain ⟨Ao668, co668, eo668⟩ := Kd.R_slice HO638.1
        subst eo668
        obtain ⟨Ao669, co669, eo669⟩ := Kd.R_slice HO642.1
        subst eo669
        go_wp2_with (first | (go_at_call 14; (with_reducible refine (laws_kTurns.calls kj456 _ _ t636 _ _ t640 true _ ?side1 ?side2 ?side3 ?side4 A663.1).mono ?_); (case side1 => refine (Kd.R_reads' (e := 25) (base := w.heap.size) (ok := fun k_ => (((((((True ∧ k_ ≠ gb537) ∧ k_ ≠ gb549) ∧ k_ ≠ gb553) ∧ k_ ≠ gb635) ∧ some k_ ≠ (.slice Ao669 t640.length co669 : Value).ownBlock) ∧ k_ ≠ gb647) ∧ k_ ≠ gb651)) (n := t636.length) (c := co668) ?_).2.2; exact (by (with_reducible repeat (first | apply Kd.R_alloc | apply Kd.R_drewN | apply Kd.R_drew)); exact (Kd.R_mono (Kd.R_far (p := ⟨gb651, 1, none⟩) (Kd.R_far (p := ⟨gb651, 0, none⟩) (Kd.R_mono HO638.1 (fun k_ hk => (⟨hk, hk.2⟩ : _ ∧ k_ ≠ gb651))) (fun _ hk => hk.2) (.int .i64 t648)) (fun _ hk => hk.2) (.int .i64 t649)) (fun _ h_ => h_.1)))); (case side2 => exact (Kd.R_reads' HO638.1).2.1); (case side3 => refine (Kd.R_reads' (e := 25) (base := w.heap.size) (ok := fun k_ => (((((((True ∧ some k_ ≠ (.slice Ao668 t636.length co668 : Value).ownBlock) ∧ k_ ≠ gb537) ∧ k_ ≠ gb549) ∧ k_ ≠ gb553) ∧ k_ ≠ gb635) ∧ k_ ≠ gb647) ∧ k_ ≠ gb651)) (n := t640.length) (c := co669) ?_).2.2; exact (by (with_reducible repeat (first | apply Kd.R_alloc | apply Kd.R_drewN | apply Kd.R_drew)); exact (Kd.R_mono (Kd.R_far (p := ⟨gb651, 1, none⟩) (Kd.R_far (p := ⟨gb651, 0, none⟩) (Kd.R_mono HO642.1 (fun k_ hk => (⟨hk, hk.2⟩ : _ ∧ k_ ≠ gb651))) (fun _ hk => hk.2) (.int .i64 t648)) (fun _ hk => hk.2) (.int .i64 t649)) (fun _ h_ => h_.1)))); (case side4 => exact (Kd.R_reads' HO642.1).2.1); rintro e w' ⟨rfl, ⟨nd, rfl⟩⟩; have hnc672 := LT537_647.1; have hnc673 := LT549_647.1; have hnc674 := LT553_647.1; have hnc680 := LT634_647.1; have hnc681 := LT635_647.1; have hnb682 := LT647_651.1; obtain ⟨hcz683_0, hcz683_1, hfz683_0, hfz683_1⟩ := zc2 BK647; have hnc686 := LT537_651.1; have hnc687 := LT549_651.1; have hnc688 := LT553_651.1; have hnc694 := LT634_651.1; have hnc695 := LT635_651.1; obtain ⟨hcz696_0, hcz696_1, hfz696_0, hfz696_1⟩ := zc2 BK651))
        go_meet
        case rel => exact ⟨_, ((!(t644 == t648) || (!(t645 == t649)))), ew, H', ⟨by have := HJ13.1; have := HJ193.1; have := HJ273.1; have := HJ334.1; have := HJ414.1; have := HJ456.1; first | omega | exact Nat.le_refl _⟩, ⟨by (with_reducible repeat (first | apply Kd.R_alloc | apply Kd.R_drewN | apply Kd.R_drew)); exact Kd.R_mono (Kd.R_far (p := ⟨gb651, 1, none⟩) (Kd.R_far (p := ⟨gb651, 0, none⟩) (Kd.R_mono HO638.1 (fun k_ hk => (⟨hk, hk.2⟩ : _ ∧ k_ ≠ gb651))) (fun _ hk => hk.2) (.int .i64 t648)) (fun _ hk => hk.2) (.int .i64 t649)) (fun _ hk => ⟨hk.1.1.1.1.1.1.1.2, ⟨hk.1.1.1.1.1.1.2, ⟨hk.1.1.1.1.1.2, ⟨hk.1.1.1.1.2, ⟨hk.1.1.2, hk.1.2⟩⟩⟩⟩⟩)⟩, ⟨bk BK537⟩, ⟨bk BK549⟩, ⟨bk BK553⟩, ⟨bk BK634⟩, ⟨bk BK635⟩, ⟨bk BK647⟩, ⟨bk BK651⟩, ⟨bq HB⟩⟩
      replace c664 := Bool.eq_false_iff.mpr c664
      subst c664
      have H1 := H
      rw [if_neg (show ¬ (false = true) by decide)] at H1
      clear H
      have H := H1
      exact (laws_FnHandsAhead.j10_no H).elim
    clear HC596
    try clear c1
    try clear hcz21_0
    try clear hcz21_1
    try clear hcz21_2
    try clear hcz23_0
    try clear hcz23_1
    try clear hcz23_2
    try clear hcz24_0
    try clear hcz24_1
    try clear hcz26_0
    try clear hcz26_1
    try clear hcz26_2
    try clear hcz27_0
    try clear hcz27_1
    try clear hcz27_2
    try clear hcz28_0
    try clear hcz28_1
    try clear hcz30_0
    try clear hcz30_1
    try clear hcz30_2
    try clear hcz31_0
    try clear hcz31_1
    try clear hcz31_2
    try clear hcz32_0
    try clear hcz32_1
    try clear hcz38_0
    try clear hcz38_1
    try clear hcz39_0
    try clear hcz39_1
    try clear hcz39_2
    try clear hcz40_0
    try clear hcz40_1
    try clear hcz40_2
    try clear hcz41_0
    try clear hcz41_1
    try clear hcz429_0
    try clear hcz429_1
    try clear hcz429_2
    try clear hcz438_0
    try clear hcz438_1
    try clear hcz438_2
    try clear hcz446_0
    try clear hcz446_1
    try clear hcz446_2
    try clear hcz448_0
    try clear hcz448_1
    try clear hcz448_2
    try clear hcz449_0
    try clear hcz449_1
    try clear hcz449_2
    try clear hcz450_0
    try clear hcz450_1
    try clear hcz450_2
    try clear hcz48_0
    try clear hcz48_1
    try clear hcz49_0
    try clear hcz49_1
    try clear hcz49_2
    try clear hcz50_0
    try clear hcz50_1
    try clear hcz50_2
    try clear hcz58_0
    try clear hcz58_1
    try clear hcz58_2
    try clear hcz59_0
    try clear hcz59_1
    try clear hcz59_2
    try clear hcz60_0
    try clear hcz60_1
    try clear hcz60_2
    try clear hcz611_0
    try clear hcz611_1
    try clear hcz611_2
    try clear hcz622_0
    try clear hcz622_1
    try clear hcz624_0
    try clear hcz624_1
    try clear hcz624_2
    try clear hcz625_0
    try clear hcz625_1
    try clear hcz627_0
    try clear hcz627_1
    try clear hcz627_2
    try clear hcz628_0
    try clear hcz628_1
    try clear hcz643_0
    try clear hcz643_1
    try clear hcz644_0
    try clear hcz644_1
    try clear hcz644_2
    try clear hcz645_0
    try clear hcz645_1
    try clear hcz661_0
    try clear hcz661_1
    try clear hcz69_0
    try clear hcz69_1
    try clear hcz69_2
    try clear hcz70_0
    try clear hcz70_1
    try clear hcz70_2
    try clear hcz71_0
    try clear hcz71_1
    try clear hcz71_2
    try clear hcz73_0
    try clear hcz73_1
    try clear hcz73_2
    try clear hcz74_0
    try clear hcz74_1
    try clear hcz74_2
    try clear hfz21_0
    try clear hfz21_1
    try clear hfz21_2
    try clear hfz23_0
    try clear hfz23_1
    try clear hfz23_2
    try clear hfz24_0
    try clear hfz24_1
    try clear hfz26_0
    try clear hfz26_1
    try clear hfz26_2
    try clear hfz27_0
    try clear hfz27_1
    try clear hfz27_2
    try clear hfz28_0
    try clear hfz28_1
    try clear hfz30_0
    try clear hfz30_1
    try clear hfz30_2
    try clear hfz31_0
    try clear hfz31_1
    try clear hfz31_2
    try clear hfz32_0
    try clear hfz32_1
    try clear hfz38_0
    try clear hfz38_1
    try clear hfz39_0
    try clear hfz39_1
    try clear hfz39_2
    try clear hfz40_0
    try clear hfz40_1
    try clear hfz40_2
    try clear hfz41_0
    try clear hfz41_1
    try clear hfz429_0
    try clear hfz429_1
    try clear hfz429_2
    try clear hfz438_0
    try clear hfz438_1
    try clear hfz438_2
    try clear hfz446_0
    try clear hfz446_1
    try clear hfz446_2
    try clear hfz448_0
    try clear hfz448_1
    try clear hfz448_2
    try clear hfz449_0
    try clear hfz449_1
    try clear hfz449_2
    try clear hfz450_0
    try clear hfz450_1
    try clear hfz450_2
    try clear hfz48_0
    try clear hfz48_1
    try clear hfz49_0
    try clear hfz49_1
    try clear hfz49_2
    try clear hfz50_0
    try clear hfz50_1
    try clear hfz50_2
    try clear hfz58_0
    try clear hfz58_1
    try clear hfz58_2
    try clear hfz59_0
    try clear hfz59_1
    try clear hfz59_2
    try clear hfz60_0
    try clear hfz60_1
    try clear hfz60_2
    try clear hfz611_0
    try clear hfz611_1
    try clear hfz611_2
    try clear hfz622_0
    try clear hfz622_1
    try clear hfz624_0
    try clear hfz624_1
    try clear hfz624_2
    try clear hfz625_0
    try clear hfz625_1
    try clear hfz627_0
    try clear hfz627_1
    try clear hfz627_2
    try clear hfz628_0
    try clear hfz628_1
    try clear hfz643_0
    try clear hfz643_1
    try clear hfz644_0
    try clear hfz644_1
    try clear hfz644_2
    try clear hfz645_0
    try clear hfz645_1
    try clear hfz661_0
    try clear hfz661_1
    try clear hfz69_0
    try clear hfz69_1
    try clear hfz69_2
    try clear hfz70_0
    try clear hfz70_1
    try clear hfz70_2
    try clear hfz71_0
    try clear hfz71_1
    try clear hfz71_2
    try clear hfz73_0
    try clear hfz73_1
    try clear hfz73_2
    try clear hfz74_0
    try clear hfz74_1
    try clear hfz74_2
    obtain ⟨kq, x385_595, rfl, HA, HJ595, HO_51, BK537, BK549, BK553, BK634, BK635, BK647, BK651, HB⟩ := hcut
    exact laws_FnHandsAhead.rest7 HR0 HC0 HR1 HC1 A3 A5 A6 A7 A8 A9 A10 A11 A12 A13 GW535 GE535 GW536 GE536 NB535_536 LT535_536 NB536_535 GW537 GE537 NB535_537 LT535_537 NB537_535 NB536_537 LT536_537 NB537_536 GW549 GE549 NB535_549 LT535_549 NB549_535 NB536_549 LT536_549 NB549_536 NB537_549 LT537_549 NB549_537 GW553 GE553 NB535_553 LT535_553 NB553_535 NB536_553 LT536_553 NB553_536 NB537_553 LT537_553 NB553_537 NB549_553 LT549_553 NB553_549 GW558 GE558 NB535_558 LT535_558 NB558_535 NB536_558 LT536_558 NB558_536 NB537_558 LT537_558 NB558_537 NB549_558 LT549_558 NB558_549 NB553_558 LT553_558 NB558_553 GW563 GE563 NB535_563 LT535_563 NB563_535 NB536_563 LT536_563 NB563_536 NB537_563 LT537_563 NB563_537 NB549_563 LT549_563 NB563_549 NB553_563 LT553_563 NB563_553 NB558_563 LT558_563 NB563_558 HJ13 HJ193 HJ273 HJ334 A412 A413 A414 GW605 GE605 NB537_605 LT537_605 NB605_537 NB549_605 LT549_605 NB605_549 NB553_605 LT553_605 NB605_553 GW606 GE606 NB537_606 LT537_606 NB606_537 NB549_606 LT549_606 NB606_549 NB553_606 LT553_606 NB606_553 NB605_606 LT605_606 NB606_605 GW607 GE607 NB537_607 LT537_607 NB607_537 NB549_607 LT549_607 NB607_549 NB553_607 LT553_607 NB607_553 NB605_607 LT605_607 NB607_605 NB606_607 LT606_607 NB607_606 HJ414 HJ456 A591 A592 A593 A594 A595 GW634 GE634 NB537_634 LT537_634 NB634_537 NB549_634 LT549_634 NB634_549 NB553_634 LT553_634 NB634_553 GW635 GE635 NB537_635 LT537_635 NB635_537 NB549_635 LT549_635 NB635_549 NB553_635 LT553_635 NB635_553 NB634_635 LT634_635 NB635_634 GW647 GE647 NB537_647 LT537_647 NB647_537 NB549_647 LT549_647 NB647_549 NB553_647 LT553_647 NB647_553 NB634_647 LT634_647 NB647_634 NB635_647 LT635_647 NB647_635 GW651 GE651 NB537_651 LT537_651 NB651_537 NB549_651 LT549_651 NB651_549 NB553_651 LT553_651 NB651_553 NB634_651 LT634_651 NB651_634 NB635_651 LT635_651 NB651_635 NB647_651 LT647_651 NB651_647 HA HJ595 HO_51 BK537 BK549 BK553 BK634 BK635 BK647 BK651 HB _ _ (fun a w h_ => by go_step; exact cut_lit h_ rfl) (fun a w h_ => by go_step; exact cut_lit h_ rfl)

end Go.Proofs.Ytoneipoioiokcab.PFnHandsAhead
