/- A part of the walk of FnHandsAhead: which Lean function each Go function comes to, and that the machine's call does so. Written by a program of this repo (wip/gen/xprint.py). -/
import Derived.Test.YtoneipoioiokcabPFnHandsAheadx24
namespace Go.Proofs.Ytoneipoioiokcab.PFnHandsAhead
open Go.RowKit Go.Proofs.YtoneipoioiokcabW.PrintWords Go.Proofs.YtoneipoioiokcabW.PrintLast Go.Proofs.YtoneipoioiokcabW.PrintMore
attribute [local go_sem] max2_int min2_int max_two min_two max_three min_three max_four min_four   -- for this text's walks alone
set_option linter.unusedVariables false
set_option linter.unusedSimpArgs false
attribute [local go_sem high] eqA25 eqA27
set_option maxHeartbeats 8000000 in
set_option maxRecDepth 100000 in
theorem laws_FnHandsAhead.rest7 {s63 s64 s65 s66 s67 s68 s69 s70 s71 s72 s73 s74 s75 s76 s77 s78 s79 s80 s81 s82 s83 s84 s85 s86 s87 s88 s89 s90 s91 s92 s93 s94 s95 s96 s97 s98 s99 s100 s101 s102 s103 s104 s105 s106 s107 s108 s109 s110 s111 s112 s113 s114 s115 s116 s117 s118 s119 s120 s121 s122 s123 s124 s125 s126 s127 s128 s129 s130 s131 s132 s133 s134 s135 s136 s137 s138 s139 s140 s141 s142 s143 s144 s145 s146 s147 s148 s149 s150 s151 s152 s153 s154 s155 s156 s157 s158 s159 s160 s161 s162 s163 s164 s165 s166 s167 s168 s169 s170 s171 s172 s173 s174 s175 s176 s177 s178 s179 s180 s181 s182 s183 s184 s185 s186 s187 s188 s189 s190 s191 s192 s193 s194 s195 s196 s197 s198 s199 s200 s201 s202 s203 s204 s205 s206 s207 s208 s209 s210 s211 s212 s213 s214 s215 s216 s217 s218 s219 s220 s221 s222 s223 s224 s225 s226 s227 s228 s229 s230 s231 s232 s233 s234 s235 s236 s237 s238 s239 s240 s241 s242 s243 s244 s245 s246 s247 s248 s249 s250 s251 s252 s253 s254 s255 s256 s257 s258 s259 s260 s261 s262 s263 s264 s265 s266 s267 s268 s269 s270 s271 s272 s273 s274 s275 s276 s277 s278 s279 s280 s281 s282 s283 s284 s285 s286 s287 s288 s289 s290 s291 s292 s293 s294 s295 s296 s297 s298 s299 s300 s301 s302 s303 s304 s305 s306 s307 s308 s309 s310 s311 s312 s313 s314 s315 s316 s317 s318 s319 s320 s321 s322 s323 s324 s325 s326 s327 s328 s329 s330 s331 s332 s333 s334 s335 s336 s337 s338 s339 s340 s341 s342 s343 s344 s345 s346 s347 s348 s349 s350 s351 s352 s353 s354 s355 s356 s357 s358 s359 s360 s361 s362 s363 s364 s365 s366 s367 s368 s369 s370 s371 s372 s373 s374 s375 s376 s377 s378 s379 s380 s381 s382 s383 s384 s386 s387 s388 s389 s390 s391 s392 s393 s394 s395 s396 s397 s398 s399 s400 s401 s402 s403 s404 s405 s406 s407 s408 s409 s410 s411 s412 s413 s414 s415 s416 s417 : Value} {k : Nat} {A0 : Option Addr} {c0 : Nat} {l0 : List Int} {A1 : Option Addr} {c1 : Nat} {l1 : List Int} {w : World} {t527 t528 t529 t530 t531 t532 t533 t534 : Int} {t538 : List S25} {t541 : Bool} {t542 : List S25} {t545 : Bool} {t546 t547 : Int} {t548 : Bool} {t550 t551 : Int} {t552 : Bool} {t554 t555 t556 : Int} {t557 : Bool} {t559 t560 t561 : Int} {t562 : Bool} {t564 : List S25} {t567 : Bool} {t568 : List S25} {t571 : Bool} {gb535 gb536 gb537 : Nat} {v539 v543 : Value} {gb549 gb553 gb558 gb563 : Nat} {v565 v569 : Value} {kj13 : Nat} {u25 u26 u27 : Value} {kj193 : Nat} {u29 u30 u31 u32 u33 : Value} {kj273 : Nat} {u34 u35 : Value} {kj334 : Nat} {t596 t597 t598 t599 t600 t601 t602 t603 t604 : Int} {t608 : List S25} {t611 : Bool} {t612 : List S25} {t615 : Bool} {gb605 gb606 gb607 : Nat} {v609 v613 : Value} {kj414 : Nat} {u4 u43 u44 u46 u47 u48 : Value} {kj456 : Nat} {t629 t630 t631 t632 t633 : Int} {t636 : List S25} {t639 : Bool} {t640 : List S25} {t643 : Bool} {t644 t645 : Int} {t646 : Bool} {t648 t649 : Int} {t650 : Bool} {gb634 gb635 : Nat} {v637 v641 : Value} {gb647 gb651 : Nat} {wc : World} {kq : Nat} {x385_595 : Bool} (HR0 : Aside0 ((Kd.int IntKind.u8).C w A0 l0.length l0)) (HC0 : Aside0 (l0.length ≤ c0)) (HR1 : Aside0 ((Kd.int IntKind.u8).C w A1 l1.length l1)) (HC1 : Aside0 (l1.length ≤ c1)) (A3 : Aside0 (laws_big.f l0 l1 = some false)) (A5 : Aside0 (spec_DrawAheadTimes.f k l0 = some (t527, t528, t529, t530, t531, t532, t533, t534))) (A6 : Aside0 (impl_AheadTimes.f k t527 t528 t529 t530 t531 t532 t533 t534 = some (t538, t541))) (A7 : Aside0 (spec_AheadTimes.f k t527 t528 t529 t530 t531 t532 t533 t534 = some (t542, t545))) (A8 : Aside0 (impl_AheadAt.f k t527 t528 t529 t530 t531 t532 t533 t534 = some (t546, t547, t548))) (A9 : Aside0 (spec_AheadAt.f k t527 t528 t529 t530 t531 t532 t533 t534 = some (t550, t551, t552))) (A10 : Aside0 (impl_RelativeHand.f k t527 t528 t529 t530 t531 t532 = some (t554, t555, t556, t557))) (A11 : Aside0 (spec_RelativeHand.f k t527 t528 t529 t530 t531 t532 = some (t559, t560, t561, t562))) (A12 : Aside0 (impl_OppositeTimes.f k t527 t528 t529 t530 t531 t532 = some (t564, t567))) (A13 : Aside0 (spec_OppositeTimes.f k t527 t528 t529 t530 t531 t532 = some (t568, t571))) (GW535 : Aside0 (w.heap.size ≤ gb535)) (GE535 : Aside0 (w.heap.size ≤ gb535)) (GW536 : Aside0 (w.heap.size ≤ gb536)) (GE536 : Aside0 (w.heap.size ≤ gb536)) (NB535_536 : Aside0 (gb535 ≠ gb536)) (LT535_536 : Aside0 (gb535 < gb536)) (NB536_535 : Aside0 (gb536 ≠ gb535)) (GW537 : Aside0 (w.heap.size ≤ gb537)) (GE537 : Aside0 (w.heap.size ≤ gb537)) (NB535_537 : Aside0 (gb535 ≠ gb537)) (LT535_537 : Aside0 (gb535 < gb537)) (NB537_535 : Aside0 (gb537 ≠ gb535)) (NB536_537 : Aside0 (gb536 ≠ gb537)) (LT536_537 : Aside0 (gb536 < gb537)) (NB537_536 : Aside0 (gb537 ≠ gb536)) (GW549 : Aside0 (w.heap.size ≤ gb549)) (GE549 : Aside0 (w.heap.size ≤ gb549)) (NB535_549 : Aside0 (gb535 ≠ gb549)) (LT535_549 : Aside0 (gb535 < gb549)) (NB549_535 : Aside0 (gb549 ≠ gb535)) (NB536_549 : Aside0 (gb536 ≠ gb549)) (LT536_549 : Aside0 (gb536 < gb549)) (NB549_536 : Aside0 (gb549 ≠ gb536)) (NB537_549 : Aside0 (gb537 ≠ gb549)) (LT537_549 : Aside0 (gb537 < gb549)) (NB549_537 : Aside0 (gb549 ≠ gb537)) (GW553 : Aside0 (w.heap.size ≤ gb553)) (GE553 : Aside0 (w.heap.size ≤ gb553)) (NB535_553 : Aside0 (gb535 ≠ gb553)) (LT535_553 : Aside0 (gb535 < gb553)) (NB553_535 : Aside0 (gb553 ≠ gb535)) (NB536_553 : Aside0 (gb536 ≠ gb553)) (LT536_553 : Aside0 (gb536 < gb553)) (NB553_536 : Aside0 (gb553 ≠ gb536)) (NB537_553 : Aside0 (gb537 ≠ gb553)) (LT537_553 : Aside0 (gb537 < gb553)) (NB553_537 : Aside0 (gb553 ≠ gb537)) (NB549_553 : Aside0 (gb549 ≠ gb553)) (LT549_553 : Aside0 (gb549 < gb553)) (NB553_549 : Aside0 (gb553 ≠ gb549)) (GW558 : Aside0 (w.heap.size ≤ gb558)) (GE558 : Aside0 (w.heap.size ≤ gb558)) (NB535_558 : Aside0 (gb535 ≠ gb558)) (LT535_558 : Aside0 (gb535 < gb558)) (NB558_535 : Aside0 (gb558 ≠ gb535)) (NB536_558 : Aside0 (gb536 ≠ gb558)) (LT536_558 : Aside0 (gb536 < gb558)) (NB558_536 : Aside0 (gb558 ≠ gb536)) (NB537_558 : Aside0 (gb537 ≠ gb558)) (LT537_558 : Aside0 (gb537 < gb558)) (NB558_537 : Aside0 (gb558 ≠ gb537)) (NB549_558 : Aside0 (gb549 ≠ gb558)) (LT549_558 : Aside0 (gb549 < gb558)) (NB558_549 : Aside0 (gb558 ≠ gb549)) (NB553_558 : Aside0 (gb553 ≠ gb558)) (LT553_558 : Aside0 (gb553 < gb558)) (NB558_553 : Aside0 (gb558 ≠ gb553)) (GW563 : Aside0 (w.heap.size ≤ gb563)) (GE563 : Aside0 (w.heap.size ≤ gb563)) (NB535_563 : Aside0 (gb535 ≠ gb563)) (LT535_563 : Aside0 (gb535 < gb563)) (NB563_535 : Aside0 (gb563 ≠ gb535)) (NB536_563 : Aside0 (gb536 ≠ gb563)) (LT536_563 : Aside0 (gb536 < gb563)) (NB563_536 : Aside0 (gb563 ≠ gb536)) (NB537_563 : Aside0 (gb537 ≠ gb563)) (LT537_563 : Aside0 (gb537 < gb563)) (NB563_537 : Aside0 (gb563 ≠ gb537)) (NB549_563 : Aside0 (gb549 ≠ gb563)) (LT549_563 : Aside0 (gb549 < gb563)) (NB563_549 : Aside0 (gb563 ≠ gb549)) (NB553_563 : Aside0 (gb553 ≠ gb563)) (LT553_563 : Aside0 (gb553 < gb563)) (NB563_553 : Aside0 (gb563 ≠ gb553)) (NB558_563 : Aside0 (gb558 ≠ gb563)) (LT558_563 : Aside0 (gb558 < gb563)) (NB563_558 : Aside0 (gb563 ≠ gb558)) (HJ13 : Aside0 (kj13 + 1 ≤ k)) (HJ193 : Aside0 (kj193 + 1 ≤ kj13)) (HJ273 : Aside0 (kj273 + 1 ≤ kj193)) (HJ334 : Aside0 (kj334 + 1 ≤ kj273)) (A412 : Aside0 (spec_DrawThreeMeet.f kj334 l1 = some (t596, t597, t598, t599, t600, t601, t602, t603, t604))) (A413 : Aside0 (impl_ThreeMeet.f kj334 t596 t597 t598 t599 t600 t601 t602 t603 t604 = some (t608, t611))) (A414 : Aside0 (spec_ThreeMeet.f kj334 t596 t597 t598 t599 t600 t601 t602 t603 t604 = some (t612, t615))) (GW605 : Aside0 (w.heap.size ≤ gb605)) (GE605 : Aside0 (w.heap.size ≤ gb605)) (NB537_605 : Aside0 (gb537 ≠ gb605)) (LT537_605 : Aside0 (gb537 < gb605)) (NB605_537 : Aside0 (gb605 ≠ gb537)) (NB549_605 : Aside0 (gb549 ≠ gb605)) (LT549_605 : Aside0 (gb549 < gb605)) (NB605_549 : Aside0 (gb605 ≠ gb549)) (NB553_605 : Aside0 (gb553 ≠ gb605)) (LT553_605 : Aside0 (gb553 < gb605)) (NB605_553 : Aside0 (gb605 ≠ gb553)) (GW606 : Aside0 (w.heap.size ≤ gb606)) (GE606 : Aside0 (w.heap.size ≤ gb606)) (NB537_606 : Aside0 (gb537 ≠ gb606)) (LT537_606 : Aside0 (gb537 < gb606)) (NB606_537 : Aside0 (gb606 ≠ gb537)) (NB549_606 : Aside0 (gb549 ≠ gb606)) (LT549_606 : Aside0 (gb549 < gb606)) (NB606_549 : Aside0 (gb606 ≠ gb549)) (NB553_606 : Aside0 (gb553 ≠ gb606)) (LT553_606 : Aside0 (gb553 < gb606)) (NB606_553 : Aside0 (gb606 ≠ gb553)) (NB605_606 : Aside0 (gb605 ≠ gb606)) (LT605_606 : Aside0 (gb605 < gb606)) (NB606_605 : Aside0 (gb606 ≠ gb605)) (GW607 : Aside0 (w.heap.size ≤ gb607)) (GE607 : Aside0 (w.heap.size ≤ gb607)) (NB537_607 : Aside0 (gb537 ≠ gb607)) (LT537_607 : Aside0 (gb537 < gb607)) (NB607_537 : Aside0 (gb607 ≠ gb537)) (NB549_607 : Aside0 (gb549 ≠ gb607)) (LT549_607 : Aside0 (gb549 < gb607)) (NB607_549 : Aside0 (gb607 ≠ gb549)) (NB553_607 : Aside0 (gb553 ≠ gb607)) (LT553_607 : Aside0 (gb553 < gb607)) (NB607_553 : Aside0 (gb607 ≠ gb553)) (NB605_607 : Aside0 (gb605 ≠ gb607)) (LT605_607 : Aside0 (gb605 < gb607)) (NB607_605 : Aside0 (gb607 ≠ gb605)) (NB606_607 : Aside0 (gb606 ≠ gb607)) (LT606_607 : Aside0 (gb606 < gb607)) (NB607_606 : Aside0 (gb607 ≠ gb606)) (HJ414 : Aside0 (kj414 + 1 ≤ kj334)) (HJ456 : Aside0 (kj456 + 1 ≤ kj414)) (A591 : Aside0 (spec_DrawTimesAtPlace.f kj456 l1 = some (t629, t630, t631, t632, t633))) (A592 : Aside0 (impl_TimesAtPlace.f kj456 t629 t630 t631 t632 t633 = some (t636, t639))) (A593 : Aside0 (spec_TimesAtPlace.f kj456 t629 t630 t631 t632 t633 = some (t640, t643))) (A594 : Aside0 (impl_HandAt.f kj456 t629 t630 t631 t632 t633 = some (t644, t645, t646))) (A595 : Aside0 (spec_HandAt.f kj456 t629 t630 t631 t632 t633 = some (t648, t649, t650))) (GW634 : Aside0 (w.heap.size ≤ gb634)) (GE634 : Aside0 (w.heap.size ≤ gb634)) (NB537_634 : Aside0 (gb537 ≠ gb634)) (LT537_634 : Aside0 (gb537 < gb634)) (NB634_537 : Aside0 (gb634 ≠ gb537)) (NB549_634 : Aside0 (gb549 ≠ gb634)) (LT549_634 : Aside0 (gb549 < gb634)) (NB634_549 : Aside0 (gb634 ≠ gb549)) (NB553_634 : Aside0 (gb553 ≠ gb634)) (LT553_634 : Aside0 (gb553 < gb634)) (NB634_553 : Aside0 (gb634 ≠ gb553)) (GW635 : Aside0 (w.heap.size ≤ gb635)) (GE635 : Aside0 (w.heap.size ≤ gb635)) (NB537_635 : Aside0 (gb537 ≠ gb635)) (LT537_635 : Aside0 (gb537 < gb635)) (NB635_537 : Aside0 (gb635 ≠ gb537)) (NB549_635 : Aside0 (gb549 ≠ gb635)) (LT549_635 : Aside0 (gb549 < gb635)) (NB635_549 : Aside0 (gb635 ≠ gb549)) (NB553_635 : Aside0 (gb553 ≠ gb635)) (LT553_635 : Aside0 (gb553 < gb635)) (NB635_553 : Aside0 (gb635 ≠ gb553)) (NB634_635 : Aside0 (gb634 ≠ gb635)) (LT634_635 : Aside0 (gb634 < gb635)) (NB635_634 : Aside0 (gb635 ≠ gb634)) (GW647 : Aside0 (w.heap.size ≤ gb647)) (GE647 : Aside0 (w.heap.size ≤ gb647)) (NB537_647 : Aside0 (gb537 ≠ gb647)) (LT537_647 : Aside0 (gb537 < gb647)) (NB647_537 : Aside0 (gb647 ≠ gb537)) (NB549_647 : Aside0 (gb549 ≠ gb647)) (LT549_647 : Aside0 (gb549 < gb647)) (NB647_549 : Aside0 (gb647 ≠ gb549)) (NB553_647 : Aside0 (gb553 ≠ gb647)) (LT553_647 : Aside0 (gb553 < gb647)) (NB647_553 : Aside0 (gb647 ≠ gb553)) (NB634_647 : Aside0 (gb634 ≠ gb647)) (LT634_647 : Aside0 (gb634 < gb647)) (NB647_634 : Aside0 (gb647 ≠ gb634)) (NB635_647 : Aside0 (gb635 ≠ gb647)) (LT635_647 : Aside0 (gb635 < gb647)) (NB647_635 : Aside0 (gb647 ≠ gb635)) (GW651 : Aside0 (w.heap.size ≤ gb651)) (GE651 : Aside0 (w.heap.size ≤ gb651)) (NB537_651 : Aside0 (gb537 ≠ gb651)) (LT537_651 : Aside0 (gb537 < gb651)) (NB651_537 : Aside0 (gb651 ≠ gb537)) (NB549_651 : Aside0 (gb549 ≠ gb651)) (LT549_651 : Aside0 (gb549 < gb651)) (NB651_549 : Aside0 (gb651 ≠ gb549)) (NB553_651 : Aside0 (gb553 ≠ gb651)) (LT553_651 : Aside0 (gb553 < gb651)) (NB651_553 : Aside0 (gb651 ≠ gb553)) (NB634_651 : Aside0 (gb634 ≠ gb651)) (LT634_651 : Aside0 (gb634 < gb651)) (NB651_634 : Aside0 (gb651 ≠ gb634)) (NB635_651 : Aside0 (gb635 ≠ gb651)) (LT635_651 : Aside0 (gb635 < gb651)) (NB651_635 : Aside0 (gb651 ≠ gb635)) (NB647_651 : Aside0 (gb647 ≠ gb651)) (LT647_651 : Aside0 (gb647 < gb651)) (NB651_647 : Aside0 (gb651 ≠ gb647)) (HA : Aside0 (j10 kq t636 t639 x385_595 t629 t630 t631 t632 t633 = some true)) (HJ595 : Aside0 (kq ≤ kj456)) (HO_51 : Aside0 (k25.R 25 wc w.heap.size (fun (k_ : Nat) => k_ ≠ gb537 ∧ k_ ≠ gb549 ∧ k_ ≠ gb553 ∧ k_ ≠ gb635 ∧ k_ ≠ gb647 ∧ k_ ≠ gb651) v637 t636)) (BK537 : Aside0 (wc.heap[gb537]? = some (Obj.cells #[Value.int IntKind.i64 t533, Value.int IntKind.i64 t534] 25))) (BK549 : Aside0 (wc.heap[gb549]? = some (Obj.cells #[Value.int IntKind.i64 t546, Value.int IntKind.i64 t547] 25))) (BK553 : Aside0 (wc.heap[gb553]? = some (Obj.cells #[Value.int IntKind.i64 t550, Value.int IntKind.i64 t551] 25))) (BK634 : Aside0 (wc.heap[gb634]? = some (Obj.cells #[Value.int IntKind.i64 t629, Value.int IntKind.i64 t630, Value.int IntKind.i64 t631] 27))) (BK635 : Aside0 (wc.heap[gb635]? = some (Obj.cells #[Value.int IntKind.i64 t632, Value.int IntKind.i64 t633] 25))) (BK647 : Aside0 (wc.heap[gb647]? = some (Obj.cells #[Value.int IntKind.i64 t644, Value.int IntKind.i64 t645] 25))) (BK651 : Aside0 (wc.heap[gb651]? = some (Obj.cells #[Value.int IntKind.i64 t648, Value.int IntKind.i64 t649] 25))) (HB : Aside0 (Below w.heap.size w wc)) : let K1_ : Exit → Act → World → Prop := bodyPost Try.prog Try.f3 fun (e : Ending) (w' : World) => e = Ending.returned (Value.bool true) ∧ Below w.heap.size w w'; ∀ (K3_ : Act → World → Prop), ∀ (K4_ : Act → World → Prop), (∀ (a : Go.Act) (w : Go.World), Go.Code.wp Try.prog ((cutAt Try.f3 [2, 2, 2, 2, 2, 2, 2, 2, 2, 2, 2, 2, 2, 2, 2, 2, 2, 2, 2, 2, 2, 2, 2, 2, 2, 1, 2]).getD .skip) (Exit.then K3_ K1_) a w → K4_ a w) → (∀ (a : Go.Act) (w : Go.World), Go.Code.wp Try.prog ((cutAt Try.f3 [2, 2, 2, 2, 2, 2, 2, 2, 2, 2, 2, 2, 2, 2, 2, 2, 2, 2, 2, 2, 2, 2, 2, 2, 2, 2]).getD .skip) (K1_) a w → K3_ a w) → K4_ { tmps := #[Value.slice A0 l0.length c0, Value.slice A1 l1.length c1, undef, undef, u4, Value.pointer (some { block := gb535, off := 0 }), Value.pointer (some { block := gb536, off := 0 }), Value.pointer (some { block := gb537, off := 0 }), v539, Value.bool t541, v543, Value.bool t545, Value.pointer (some { block := gb549, off := 0 }), Value.bool t548, Value.pointer (some { block := gb553, off := 0 }), Value.bool t552, Value.pointer (some { block := gb558, off := 0 }), Value.bool t557, Value.pointer (some { block := gb563, off := 0 }), Value.bool t562, v565, Value.bool t567, v569, Value.bool t571, undef, u25, u26, u27, undef, u29, u30, u31, u32, u33, u34, u35, Value.pointer (some { block := gb605, off := 0 }), Value.pointer (some { block := gb606, off := 0 }), Value.pointer (some { block := gb607, off := 0 }), v609, Value.bool t611, v613, Value.bool t615, u43, u44, undef, u46, u47, u48, Value.pointer (some { block := gb634, off := 0 }), Value.pointer (some { block := gb635, off := 0 }), v637, Value.bool t639, v641, Value.bool t643, Value.pointer (some { block := gb647, off := 0 }), Value.bool t646, Value.pointer (some { block := gb651, off := 0 }), Value.bool t650, undef, undef, undef, undef, s63, s64, s65, s66, s67, s68, s69, s70, s71, s72, s73, s74, s75, s76, s77, s78, s79, s80, s81, s82, s83, s84, s85, s86, s87, s88, s89, s90, s91, s92, s93, s94, s95, s96, s97, s98, s99, s100, s101, s102, s103, s104, s105, s106, s107, s108, s109, s110, s111, s112, s113, s114, s115, s116, s117, s118, s119, s120, s121, s122, s123, s124, s125, s126, s127, s128, s129, s130, s131, s132, s133, s134, s135, s136, s137, s138, s139, s140, s141, s142, s143, s144, s145, s146, s147, s148, s149, s150, s151, s152, s153, s154, s155, s156, s157, s158, s159, s160, s161, s162, s163, s164, s165, s166, s167, s168, s169, s170, s171, s172, s173, s174, s175, s176, s177, s178, s179, s180, s181, s182, s183, s184, s185, s186, s187, s188, s189, s190, s191, s192, s193, s194, s195, s196, s197, s198, s199, s200, s201, s202, s203, s204, s205, s206, s207, s208, s209, s210, s211, s212, s213, s214, s215, s216, s217, s218, s219, s220, s221, s222, s223, s224, s225, s226, s227, s228, s229, s230, s231, s232, s233, s234, s235, s236, s237, s238, s239, s240, s241, s242, s243, s244, s245, s246, s247, s248, s249, s250, s251, s252, s253, s254, s255, s256, s257, s258, s259, s260, s261, s262, s263, s264, s265, s266, s267, s268, s269, s270, s271, s272, s273, s274, s275, s276, s277, s278, s279, s280, s281, s282, s283, s284, s285, s286, s287, s288, s289, s290, s291, s292, s293, s294, s295, s296, s297, s298, s299, s300, s301, s302, s303, s304, s305, s306, s307, s308, s309, s310, s311, s312, s313, s314, s315, s316, s317, s318, s319, s320, s321, s322, s323, s324, s325, s326, s327, s328, s329, s330, s331, s332, s333, s334, s335, s336, s337, s338, s339, s340, s341, s342, s343, s344, s345, s346, s347, s348, s349, s350, s351, s352, s353, s354, s355, s356, s357, s358, s359, s360, s361, s362, s363, s364, s365, s366, s367, s368, s369, s370, s371, s372, s373, s374, s375, s376, s377, s378, s379, s380, s381, s382, s383, s384, Value.bool x385_595, s386, s387, s388, s389, s390, s391, s392, s393, s394, s395, s396, s397, s398, s399, s400, s401, s402, s403, s404, s405, s406, s407, s408, s409, s410, s411, s412, s413, s414, s415, s416, s417], defers := [] } wc := by
  intro K1_ K3_ K4_ hK2_ hK1_
  replace hK1_ := cut_open hK1_ rfl
  replace hK2_ := cut_open hK2_ rfl
  (try dsimp only)
  cases kq with
  | zero => exact absurd HA.1 (by simp [laws_FnHandsAhead.j10])
  | succ kj595 =>
    have H := HA.1
    clear HA
    simp only [laws_FnHandsAhead.j10] at H
    by_cases c699 : x385_595 = true
    · subst c699
      rw [if_pos rfl] at H
      exact absurd H (by simp)
    replace c699 := Bool.eq_false_iff.mpr c699
    subst c699
    rw [if_neg (show ¬ (false = true) by decide)] at H
    by_cases c700 : t639 = true
    · subst c700
      rw [if_pos rfl] at H
      have HC701 := Aside0.mk H
      clear H
      go_upto_region 63 with (fail)
      go_cut [397] from 387 to 397 (fun v397 wc => ∃ (kq : Nat) (x397_700 : Bool), v397 = .bool x397_700 ∧ Aside0 (laws_FnHandsAhead.j11 kq t636 x397_700 t629 t630 t631 t632 t633 = some true) ∧ Aside0 (kq ≤ kj595) ∧ Aside0 (Kd.R k25 25 wc w.heap.size (fun k_ => k_ ≠ gb537 ∧ k_ ≠ gb549 ∧ k_ ≠ gb553 ∧ k_ ≠ gb635 ∧ k_ ≠ gb647 ∧ k_ ≠ gb651) v637 t636) ∧ Aside0 (wc.heap[gb537]? = some (.cells #[.int .i64 t533, .int .i64 t534] 25 (0, 0))) ∧ Aside0 (wc.heap[gb549]? = some (.cells #[.int .i64 t546, .int .i64 t547] 25 (0, 0))) ∧ Aside0 (wc.heap[gb553]? = some (.cells #[.int .i64 t550, .int .i64 t551] 25 (0, 0))) ∧ Aside0 (wc.heap[gb634]? = some (.cells #[.int .i64 t629, .int .i64 t630, .int .i64 t631] 27 (0, 0))) ∧ Aside0 (wc.heap[gb635]? = some (.cells #[.int .i64 t632, .int .i64 t633] 25 (0, 0))) ∧ Aside0 (wc.heap[gb647]? = some (.cells #[.int .i64 t644, .int .i64 t645] 25 (0, 0))) ∧ Aside0 (wc.heap[gb651]? = some (.cells #[.int .i64 t648, .int .i64 t649] 25 (0, 0))) ∧ Aside0 (Below w.heap.size w wc))
      case first =>
        have H := HC701.1
        clear HC701
        replace H := Option.bind_eq_some_iff.mp H
        obtain ⟨t653, A7020, H⟩ := H
        (try dsimp only at H)
        have A702 := Aside0.mk A7020
        clear A7020
        by_cases c703 : (t636.length : Int) = t653
        · rw [if_pos c703] at H
          have c703b0 : ((t636.length : Int) == t653) = true := beq_iff_eq.mpr c703
          have c703b1 : ((t636.length : Int) != t653) = false := bne_eq_false_iff_eq.mpr c703
          clear c703
          (first | rw [c703b0] | (simp only [i64_w, i32_w]; rw [c703b0]) | skip)
          replace H := Option.bind_eq_some_iff.mp H
          obtain ⟨t654, A7040, H⟩ := H
          (try dsimp only at H)
          have A704 := Aside0.mk A7040
          clear A7040
          have H' := Aside0.mk H
          clear H
          obtain ⟨Ao705, co705, eo705⟩ := Kd.R_slice HO_51.1
          subst eo705
          have hnc708 := LT537_634.1
          have hnc709 := LT549_634.1
          have hnc710 := LT553_634.1
          have hnb716 := LT634_635.1
          have hnb717 := LT634_647.1
          have hnb718 := LT634_651.1
          obtain ⟨hcz719_0, hcz719_1, hcz719_2, hfz719_0, hfz719_1, hfz719_2⟩ := zc3 BK634
          go_wp2_with (first | ((with_reducible refine gate_callee (f := 15) rfl ?_); refine gl (some 391) Try.func15 #[.int .i64 t631] ?_; (with_reducible refine (laws_kAbs.calls t631 t653 _ A702.1).mono ?_); rintro e w' ⟨rfl, ⟨nd, rfl⟩⟩; refine ⟨_, rfl, ?_⟩) | (go_at_call 16; (with_reducible refine (laws_kRises.calls kj595 _ _ t636 t654 _ ?side1 ?side2 A704.1).mono ?_); (case side1 => repeat (first | exact (Kd.R_reads' HO_51.1).2.2 | (with_reducible refine Kd.C_alloc ?_ _) | (with_reducible refine Kd.C_drewN ?_ _) | (with_reducible refine Kd.C_drew ?_))); (case side2 => exact (Kd.R_reads' HO_51.1).2.1); rintro e w' ⟨rfl, ⟨nd, rfl⟩⟩))
          go_meet
          case rel => exact ⟨_, (!t654), ew, H', ⟨by have := HJ13.1; have := HJ193.1; have := HJ273.1; have := HJ334.1; have := HJ414.1; have := HJ456.1; have := HJ595.1; first | omega | exact Nat.le_refl _⟩, ⟨rq HO_51⟩, ⟨bk BK537⟩, ⟨bk BK549⟩, ⟨bk BK553⟩, ⟨bk BK634⟩, ⟨bk BK635⟩, ⟨bk BK647⟩, ⟨bk BK651⟩, ⟨bq HB⟩⟩
        rw [if_neg c703] at H
        exact (laws_FnHandsAhead.j11_no H).elim
      clear HC701
      try clear c1
      try clear c699
      try clear c700
      try clear hcz30_0
      try clear hcz30_1
      try clear hcz30_2
      try clear hcz31_0
      try clear hcz31_1
      try clear hcz31_2
      try clear hcz32_0
      try clear hcz32_1
      try clear hcz38_0
      try clear hcz38_1
      try clear hcz39_0
      try clear hcz39_1
      try clear hcz39_2
      try clear hcz40_0
      try clear hcz40_1
      try clear hcz40_2
      try clear hcz41_0
      try clear hcz41_1
      try clear hcz429_0
      try clear hcz429_1
      try clear hcz429_2
      try clear hcz438_0
      try clear hcz438_1
      try clear hcz438_2
      try clear hcz446_0
      try clear hcz446_1
      try clear hcz446_2
      try clear hcz448_0
      try clear hcz448_1
      try clear hcz448_2
      try clear hcz449_0
      try clear hcz449_1
      try clear hcz449_2
      try clear hcz450_0
      try clear hcz450_1
      try clear hcz450_2
      try clear hcz48_0
      try clear hcz48_1
      try clear hcz49_0
      try clear hcz49_1
      try clear hcz49_2
      try clear hcz50_0
      try clear hcz50_1
      try clear hcz50_2
      try clear hcz58_0
      try clear hcz58_1
      try clear hcz58_2
      try clear hcz59_0
      try clear hcz59_1
      try clear hcz59_2
      try clear hcz60_0
      try clear hcz60_1
      try clear hcz60_2
      try clear hcz611_0
      try clear hcz611_1
      try clear hcz611_2
      try clear hcz622_0
      try clear hcz622_1
      try clear hcz624_0
      try clear hcz624_1
      try clear hcz624_2
      try clear hcz625_0
      try clear hcz625_1
      try clear hcz627_0
      try clear hcz627_1
      try clear hcz627_2
      try clear hcz628_0
      try clear hcz628_1
      try clear hcz643_0
      try clear hcz643_1
      try clear hcz644_0
      try clear hcz644_1
      try clear hcz644_2
      try clear hcz645_0
      try clear hcz645_1
      try clear hcz661_0
      try clear hcz661_1
      try clear hcz69_0
      try clear hcz69_1
      try clear hcz69_2
      try clear hcz70_0
      try clear hcz70_1
      try clear hcz70_2
      try clear hcz71_0
      try clear hcz71_1
      try clear hcz71_2
      try clear hcz73_0
      try clear hcz73_1
      try clear hcz73_2
      try clear hcz74_0
      try clear hcz74_1
      try clear hcz74_2
      try clear hfz21_0
      try clear hfz21_1
      try clear hfz21_2
      try clear hfz23_0
      try clear hfz23_1
      try clear hfz23_2
      try clear hfz24_0
      try clear hfz24_1
      try clear hfz26_0
      try clear hfz26_1
      try clear hfz26_2
      try clear hfz27_0
      try clear hfz27_1
      try clear hfz27_2
      try clear hfz28_0
      try clear hfz28_1
      try clear hfz30_0
      try clear hfz30_1
      try clear hfz30_2
      try clear hfz31_0
      try clear hfz31_1
      try clear hfz31_2
      try clear hfz32_0
      try clear hfz32_1
      try clear hfz38_0
      try clear hfz38_1
      try clear hfz39_0
      try clear hfz39_1
      try clear hfz39_2
      try clear hfz40_0
      try clear hfz40_1
      try clear hfz40_2
      try clear hfz41_0
      try clear hfz41_1
      try clear hfz429_0
      try clear hfz429_1
      try clear hfz429_2
      try clear hfz438_0
      try clear hfz438_1
      try clear hfz438_2
      try clear hfz446_0
      try clear hfz446_1
      try clear hfz446_2
      try clear hfz448_0
      try clear hfz448_1
      try clear hfz448_2
      try clear hfz449_0
      try clear hfz449_1
      try clear hfz449_2
      try clear hfz450_0
      try clear hfz450_1
      try clear hfz450_2
      try clear hfz48_0
      try clear hfz48_1
      try clear hfz49_0
      try clear hfz49_1
      try clear hfz49_2
      try clear hfz50_0
      try clear hfz50_1
      try clear hfz50_2
      try clear hfz58_0
      try clear hfz58_1
      try clear hfz58_2
      try clear hfz59_0
      try clear hfz59_1
      try clear hfz59_2
      try clear hfz60_0
      try clear hfz60_1
      try clear hfz60_2
      try clear hfz611_0
      try clear hfz611_1
      try clear hfz611_2
      try clear hfz622_0
      try clear hfz622_1
      try clear hfz624_0
      try clear hfz624_1
      try clear hfz624_2
      try clear hfz625_0
      try clear hfz625_1
      try clear hfz627_0
      try clear hfz627_1
      try clear hfz627_2
      try clear hfz628_0
      try clear hfz628_1
      try clear hfz643_0
      try clear hfz643_1
      try clear hfz644_0
      try clear hfz644_1
      try clear hfz644_2
      try clear hfz645_0
      try clear hfz645_1
      try clear hfz661_0
      try clear hfz661_1
      try clear hfz69_0
      try clear hfz69_1
      try clear hfz69_2
      try clear hfz70_0
      try clear hfz70_1
      try clear hfz70_2
      try clear hfz71_0
      try clear hfz71_1
      try clear hfz71_2
      try clear hfz73_0
      try clear hfz73_1
      try clear hfz73_2
      try clear hfz74_0
      try clear hfz74_1
      try clear hfz74_2
      obtain ⟨kq, x397_700, rfl, HA, HJ700, HO_51, BK537, BK549, BK553, BK634, BK635, BK647, BK651, HB⟩ := hcut
      cases kq with
      | zero => exact absurd HA.1 (by simp [laws_FnHandsAhead.j11])
      | succ kj700 =>
        have H := HA.1
        clear HA
        simp only [laws_FnHandsAhead.j11] at H
        by_cases c735 : x397_700 = true
        · subst c735
          rw [if_pos rfl] at H
          exact absurd H (by simp)
        replace c735 := Bool.eq_false_iff.mpr c735
        subst c735
        rw [if_neg (show ¬ (false = true) by decide)] at H
        have H' := Aside0.mk H
        clear H
        obtain ⟨Ao736, co736, eo736⟩ := Kd.R_slice HO_51.1
        subst eo736
        go_wp2
        go_loopg [400] kj700 (fun kq v400 w' => ∃ (x400_9 : Int), v400 = .int .i64 x400_9 ∧ Aside0 (laws_FnHandsAhead.l3 kq t636 (t636.length : Int) x400_9 t629 t630 t631 t632 t633 = some true) ∧ Aside0 (kq ≤ kj700) ∧ Aside0 (Kd.R k25 25 w' w.heap.size (fun k_ => k_ ≠ gb537 ∧ k_ ≠ gb549 ∧ k_ ≠ gb553 ∧ k_ ≠ gb635 ∧ k_ ≠ gb647 ∧ k_ ≠ gb651) (.slice Ao736 t636.length co736) t636) ∧ Aside0 (w'.heap[gb537]? = some (.cells #[.int .i64 t533, .int .i64 t534] 25 (0, 0))) ∧ Aside0 (w'.heap[gb549]? = some (.cells #[.int .i64 t546, .int .i64 t547] 25 (0, 0))) ∧ Aside0 (w'.heap[gb553]? = some (.cells #[.int .i64 t550, .int .i64 t551] 25 (0, 0))) ∧ Aside0 (w'.heap[gb634]? = some (.cells #[.int .i64 t629, .int .i64 t630, .int .i64 t631] 27 (0, 0))) ∧ Aside0 (w'.heap[gb635]? = some (.cells #[.int .i64 t632, .int .i64 t633] 25 (0, 0))) ∧ Aside0 (w'.heap[gb647]? = some (.cells #[.int .i64 t644, .int .i64 t645] 25 (0, 0))) ∧ Aside0 (w'.heap[gb651]? = some (.cells #[.int .i64 t648, .int .i64 t649] 25 (0, 0))) ∧ Aside0 (Below w.heap.size w w'))
        case atStart => exact ⟨(0), ew, H', ⟨Nat.le_refl _⟩, ⟨rq HO_51⟩, ⟨bk BK537⟩, ⟨bk BK549⟩, ⟨bk BK553⟩, ⟨bk BK634⟩, ⟨bk BK635⟩, ⟨bk BK647⟩, ⟨bk BK651⟩, ⟨bq HB⟩⟩
        case round =>
          clear H'
          try clear c1
          try clear c699
          try clear c700
          try clear c735
          try clear hcz30_0
          try clear hcz30_1
          try clear hcz30_2
          try clear hcz31_0
          try clear hcz31_1
          try clear hcz31_2
          try clear hcz32_0
          try clear hcz32_1
          try clear hcz38_0
          try clear hcz38_1
          try clear hcz39_0
          try clear hcz39_1
          try clear hcz39_2
          try clear hcz40_0
          try clear hcz40_1
          try clear hcz40_2
          try clear hcz41_0
          try clear hcz41_1
          try clear hcz429_0
          try clear hcz429_1
          try clear hcz429_2
          try clear hcz438_0
          try clear hcz438_1
          try clear hcz438_2
          try clear hcz446_0
          try clear hcz446_1
          try clear hcz446_2
          try clear hcz448_0
          try clear hcz448_1
          try clear hcz448_2
          try clear hcz449_0
          try clear hcz449_1
          try clear hcz449_2
          try clear hcz450_0
          try clear hcz450_1
          try clear hcz450_2
          try clear hcz48_0
          try clear hcz48_1
          try clear hcz49_0
          try clear hcz49_1
          try clear hcz49_2
          try clear hcz50_0
          try clear hcz50_1
          try clear hcz50_2
          try clear hcz58_0
          try clear hcz58_1
          try clear hcz58_2
          try clear hcz59_0
          try clear hcz59_1
          try clear hcz59_2
          try clear hcz60_0
          try clear hcz60_1
          try clear hcz60_2
          try clear hcz611_0
          try clear hcz611_1
          try clear hcz611_2
          try clear hcz622_0
          try clear hcz622_1
          try clear hcz624_0
          try clear hcz624_1
          try clear hcz624_2
          try clear hcz625_0
          try clear hcz625_1
          try clear hcz627_0
          try clear hcz627_1
          try clear hcz627_2
          try clear hcz628_0
          try clear hcz628_1
          try clear hcz643_0
          try clear hcz643_1
          try clear hcz644_0
          try clear hcz644_1
          try clear hcz644_2
          try clear hcz645_0
          try clear hcz645_1
          try clear hcz661_0
          try clear hcz661_1
          try clear hcz69_0
          try clear hcz69_1
          try clear hcz69_2
          try clear hcz70_0
          try clear hcz70_1
          try clear hcz70_2
          try clear hcz71_0
          try clear hcz71_1
          try clear hcz71_2
          try clear hcz73_0
          try clear hcz73_1
          try clear hcz73_2
          try clear hcz74_0
          try clear hcz74_1
          try clear hcz74_2
          try clear hfz21_0
          try clear hfz21_1
          try clear hfz21_2
          try clear hfz23_0
          try clear hfz23_1
          try clear hfz23_2
          try clear hfz24_0
          try clear hfz24_1
          try clear hfz26_0
          try clear hfz26_1
          try clear hfz26_2
          try clear hfz27_0
          try clear hfz27_1
          try clear hfz27_2
          try clear hfz28_0
          try clear hfz28_1
          try clear hfz30_0
          try clear hfz30_1
          try clear hfz30_2
          try clear hfz31_0
          try clear hfz31_1
          try clear hfz31_2
          try clear hfz32_0
          try clear hfz32_1
          try clear hfz38_0
          try clear hfz38_1
          try clear hfz39_0
          try clear hfz39_1
          try clear hfz39_2
          try clear hfz40_0
          try clear hfz40_1
          try clear hfz40_2
          try clear hfz41_0
          try clear hfz41_1
          try clear hfz429_0
          try clear hfz429_1
          try clear hfz429_2
          try clear hfz438_0
          try clear hfz438_1
          try clear hfz438_2
          try clear hfz446_0
          try clear hfz446_1
          try clear hfz446_2
          try clear hfz448_0
          try clear hfz448_1
          try clear hfz448_2
          try clear hfz449_0
          try clear hfz449_1
          try clear hfz449_2
          try clear hfz450_0
          try clear hfz450_1
          try clear hfz450_2
          try clear hfz48_0
          try clear hfz48_1
          try clear hfz49_0
          try clear hfz49_1
          try clear hfz49_2
          try clear hfz50_0
          try clear hfz50_1
          try clear hfz50_2
          try clear hfz58_0
          try clear hfz58_1
          try clear hfz58_2
          try clear hfz59_0
          try clear hfz59_1
          try clear hfz59_2
          try clear hfz60_0
          try clear hfz60_1
          try clear hfz60_2
          try clear hfz611_0
          try clear hfz611_1
          try clear hfz611_2
          try clear hfz622_0
          try clear hfz622_1
          try clear hfz624_0
          try clear hfz624_1
          try clear hfz624_2
          try clear hfz625_0
          try clear hfz625_1
          try clear hfz627_0
          try clear hfz627_1
          try clear hfz627_2
          try clear hfz628_0
          try clear hfz628_1
          try clear hfz643_0
          try clear hfz643_1
          try clear hfz644_0
          try clear hfz644_1
          try clear hfz644_2
          try clear hfz645_0
          try clear hfz645_1
          try clear hfz661_0
          try clear hfz661_1
          try clear hfz69_0
          try clear hfz69_1
          try clear hfz69_2
          try clear hfz70_0
          try clear hfz70_1
          try clear hfz70_2
          try clear hfz71_0
          try clear hfz71_1
          try clear hfz71_2
          try clear hfz73_0
          try clear hfz73_1
          try clear hfz73_2
          try clear hfz74_0
          try clear hfz74_1
          try clear hfz74_2
          obtain ⟨x400_9, rfl, HA, HK9, HO_398, BK537, BK549, BK553, BK634, BK635, BK647, BK651, HB⟩ := hrel
          cases gk with
          | zero => exact absurd HA.1 (by simp [laws_FnHandsAhead.l3])
          | succ k9 =>
            have H := HA.1
            clear HA
            simp only [laws_FnHandsAhead.l3] at H
            by_cases c737 : x400_9 < (t636.length : Int)
            · rw [if_pos c737] at H
              have c737b0 : decide (x400_9 < (t636.length : Int)) = true := decide_eq_true c737
              clear c737
              by_cases c738 : 0 ≤ x400_9
              · rw [if_pos c738] at H
                have c738b0 : decide (0 ≤ x400_9) = true := decide_eq_true c738
                clear c738
                by_cases c739 : x400_9 < (t636.length : Int)
                · rw [if_pos c739] at H
                  have c739b0 : decide (x400_9 < (t636.length : Int)) = true := decide_eq_true c739
                  clear c739
                  replace H := Option.bind_eq_some_iff.mp H
                  obtain ⟨⟨t657, t658, t659⟩, A7400, H⟩ := H
                  (try dsimp only at H)
                  have A740 := Aside0.mk A7400
                  clear A7400
                  by_cases c741 : t659 = true
                  · subst c741
                    rw [if_pos rfl] at H
                    by_cases c742 : (!(t657 == t632) || (!(t658 == t633))) = true
                    · rw [if_pos c742] at H
                      have c742b0 : (!(t657 == t632) || (!(t658 == t633))) = true := c742
                      clear c742
                      exact absurd H (by simp)
                    rw [if_neg c742] at H
                    have c742b0 : (!(t657 == t632) || (!(t658 == t633))) = false := by simpa using c742
                    clear c742
                    have H' := Aside0.mk H
                    clear H
                    have p655 : 0 ≤ (x400_9 : Int) := of_decide_eq_true (by first | (with_reducible assumption) | assumption)
                    have q655 : x400_9 < (t636.length : Int) := of_decide_eq_true (by first | (with_reducible assumption) | assumption)
                    obtain ⟨ad655, e655, hx655_0, hx655_1⟩ := at_T25 (Kd.R_reads' HO_398.1).2.2 x400_9 p655 q655
                    cases e655
                    replace p655 := eq_true p655
                    replace q655 := eq_true q655
                    go_wp2_with (first | ((with_reducible refine gate_dst (N := 60) rfl ?_); (try (refine gate_guard (by rfl) ?_; dsimp only)); refine be #[.int .i64 0, .int .i64 0] 25 ?_; intro gb656 hg w743 hbox hb; replace HO_398 := Aside0.mk (Kd.R_below (Kd.R_elderB (rq HO_398) gb656 (Nat.le_of_eq hg.symm)) hb); have BK656 := Aside0.mk hbox; have GW656 := zs HB hg; have GE656 := zs HB hg; have NB537_656 := zn BK537 hg; have LT537_656 := zo BK537 hg; have NB656_537 := zm BK537 hg; have NB549_656 := zn BK549 hg; have LT549_656 := zo BK549 hg; have NB656_549 := zm BK549 hg; have NB553_656 := zn BK553 hg; have LT553_656 := zo BK553 hg; have NB656_553 := zm BK553 hg; have NB634_656 := zn BK634 hg; have LT634_656 := zo BK634 hg; have NB656_634 := zm BK634 hg; have NB635_656 := zn BK635 hg; have LT635_656 := zo BK635 hg; have NB656_635 := zm BK635 hg; have NB647_656 := zn BK647 hg; have LT647_656 := zo BK647 hg; have NB656_647 := zm BK647 hg; have NB651_656 := zn BK651 hg; have LT651_656 := zo BK651 hg; have NB656_651 := zm BK651 hg; replace BK537 := zb BK537 hb; replace BK549 := zb BK549 hb; replace BK553 := zb BK553 hb; replace BK634 := zb BK634 hb; replace BK635 := zb BK635 hb; replace BK647 := zb BK647 hb; replace BK651 := zb BK651 hb; replace HB := zB HB hb; clear hb hbox hg; have hnc746 := LT537_656.1; have hnc747 := LT549_656.1; have hnc748 := LT553_656.1; have hnc754 := LT634_656.1; have hnc755 := LT635_656.1; have hnc756 := LT647_656.1; have hnc757 := LT651_656.1; obtain ⟨hcz758_0, hcz758_1, hfz758_0, hfz758_1⟩ := zc2 BK656; have hnc761 := LT537_634.1; have hnc762 := LT549_634.1; have hnc763 := LT553_634.1; have hnb769 := LT634_635.1; have hnb770 := LT634_647.1; have hnb771 := LT634_651.1; obtain ⟨hcz772_0, hcz772_1, hcz772_2, hfz772_0, hfz772_1, hfz772_2⟩ := zc3 BK634) | ((with_reducible refine gate_callee (f := 17) rfl ?_); refine gl (some 407) Try.func17 #[.agg #[.int .i64 t629, .int .i64 t630, .int .i64 t631], .agg #[.int .i64 ((rd_T25 t636 x400_9).f0), .int .i64 ((rd_T25 t636 x400_9).f1)]] ?_; (with_reducible refine (impl_HandAt.calls k9 t629 t630 t631 ((rd_T25 t636 x400_9).f0) ((rd_T25 t636 x400_9).f1) t657 t658 true _ A740.1).mono ?_); rintro e w773 ⟨rfl, hb⟩; refine ⟨_, rfl, ?_⟩; replace HO_398 := Aside0.mk (Kd.R_below (by (with_reducible repeat (first | apply Kd.R_alloc | apply Kd.R_drewN | apply Kd.R_drew)); exact (Kd.R_mono (Kd.R_far (p := ⟨gb656, 1, none⟩) (Kd.R_far (p := ⟨gb656, 0, none⟩) (Kd.R_mono HO_398.1 (fun k_ hk => (⟨hk, hk.2⟩ : _ ∧ k_ ≠ gb656))) (fun _ hk => hk.2) (.int .i64 ((rd_T25 t636 x400_9).f0))) (fun _ hk => hk.2) (.int .i64 ((rd_T25 t636 x400_9).f1))) (fun _ h_ => h_.1))) hb); replace BK537 := zy (o' := .cells #[.int .i64 t533, .int .i64 t534] 25 (0, 0)) BK537 hb; replace BK549 := zy (o' := .cells #[.int .i64 t546, .int .i64 t547] 25 (0, 0)) BK549 hb; replace BK553 := zy (o' := .cells #[.int .i64 t550, .int .i64 t551] 25 (0, 0)) BK553 hb; replace BK634 := zy (o' := .cells #[.int .i64 t629, .int .i64 t630, .int .i64 t631] 27 (0, 0)) BK634 hb; replace BK635 := zy (o' := .cells #[.int .i64 t632, .int .i64 t633] 25 (0, 0)) BK635 hb; replace BK647 := zy (o' := .cells #[.int .i64 t644, .int .i64 t645] 25 (0, 0)) BK647 hb; replace BK651 := zy (o' := .cells #[.int .i64 t648, .int .i64 t649] 25 (0, 0)) BK651 hb; replace BK656 := zy (o' := .cells #[.int .i64 ((rd_T25 t636 x400_9).f0), .int .i64 ((rd_T25 t636 x400_9).f1)] 25 (0, 0)) BK656 hb; replace HB := zB HB hb; clear hb) | ((with_reducible refine gate_dst (N := 61) rfl ?_); (try (refine gate_guard (by rfl) ?_; dsimp only)); refine be #[.int .i64 0, .int .i64 0] 25 ?_; intro gb660 hg w774 hbox hb; replace HO_398 := Aside0.mk (Kd.R_below (Kd.R_elderB (rq HO_398) gb660 (Nat.le_of_eq hg.symm)) hb); have BK660 := Aside0.mk hbox; have GW660 := zs HB hg; have GE660 := zs HB hg; have NB537_660 := zn BK537 hg; have LT537_660 := zo BK537 hg; have NB660_537 := zm BK537 hg; have NB549_660 := zn BK549 hg; have LT549_660 := zo BK549 hg; have NB660_549 := zm BK549 hg; have NB553_660 := zn BK553 hg; have LT553_660 := zo BK553 hg; have NB660_553 := zm BK553 hg; have NB634_660 := zn BK634 hg; have LT634_660 := zo BK634 hg; have NB660_634 := zm BK634 hg; have NB635_660 := zn BK635 hg; have LT635_660 := zo BK635 hg; have NB660_635 := zm BK635 hg; have NB647_660 := zn BK647 hg; have LT647_660 := zo BK647 hg; have NB660_647 := zm BK647 hg; have NB651_660 := zn BK651 hg; have LT651_660 := zo BK651 hg; have NB660_651 := zm BK651 hg; have NB656_660 := zn BK656 hg; have LT656_660 := zo BK656 hg; have NB660_656 := zm BK656 hg; replace BK537 := zb BK537 hb; replace BK549 := zb BK549 hb; replace BK553 := zb BK553 hb; replace BK634 := zb BK634 hb; replace BK635 := zb BK635 hb; replace BK647 := zb BK647 hb; replace BK651 := zb BK651 hb; replace BK656 := zb BK656 hb; replace HB := zB HB hb; clear hb hbox hg; have hnc777 := LT537_660.1; have hnc778 := LT549_660.1; have hnc779 := LT553_660.1; have hnc785 := LT634_660.1; have hnc786 := LT635_660.1; have hnc787 := LT647_660.1; have hnc788 := LT651_660.1; have hnc789 := LT656_660.1; obtain ⟨hcz790_0, hcz790_1, hfz790_0, hfz790_1⟩ := zc2 BK660; have hnc793 := LT537_635.1; have hnc794 := LT549_635.1; have hnc795 := LT553_635.1; have hnb801 := LT635_647.1; have hnb802 := LT635_651.1; obtain ⟨hcz803_0, hcz803_1, hfz803_0, hfz803_1⟩ := zc2 BK635))
                    go_roundg k9
                    case measure => have := HJ13.1; have := HJ193.1; have := HJ273.1; have := HJ334.1; have := HJ414.1; have := HJ456.1; have := HJ595.1; have := HJ700.1; have := HK9.1; omega
                    case rel => exact ⟨(wrap64 (x400_9 + 1)), ew, H', ⟨by have := HJ13.1; have := HJ193.1; have := HJ273.1; have := HJ334.1; have := HJ414.1; have := HJ456.1; have := HJ595.1; have := HJ700.1; have := HK9.1; omega⟩, ⟨by (with_reducible repeat (first | apply Kd.R_alloc | apply Kd.R_drewN | apply Kd.R_drew)); exact Kd.R_mono (Kd.R_far (p := ⟨gb660, 1, none⟩) (Kd.R_far (p := ⟨gb660, 0, none⟩) (Kd.R_mono HO_398.1 (fun k_ hk => (⟨hk, hk.2⟩ : _ ∧ k_ ≠ gb660))) (fun _ hk => hk.2) (.int .i64 t657)) (fun _ hk => hk.2) (.int .i64 t658)) (fun _ hk => ⟨hk.1.1.1.1, ⟨hk.1.1.1.2.1, ⟨hk.1.1.1.2.2.1, ⟨hk.1.1.1.2.2.2.1, ⟨hk.1.1.1.2.2.2.2.1, hk.1.1.1.2.2.2.2.2⟩⟩⟩⟩⟩)⟩, ⟨bk BK537⟩, ⟨bk BK549⟩, ⟨bk BK553⟩, ⟨bk BK634⟩, ⟨bk BK635⟩, ⟨bk BK647⟩, ⟨bk BK651⟩, ⟨bq HB⟩⟩
                  replace c741 := Bool.eq_false_iff.mpr c741
                  subst c741
                  rw [if_neg (show ¬ (false = true) by decide)] at H
                  exact absurd H (by simp)
                rw [if_neg c739] at H
                exact absurd H (by simp)
              rw [if_neg c738] at H
              exact absurd H (by simp)
            rw [if_neg c737] at H
            have c737b0 : decide (x400_9 < (t636.length : Int)) = false := decide_eq_false c737
            clear c737
            clear H
            go_wp2
            go_ret
            exact ⟨er, bq HB⟩
    replace c700 := Bool.eq_false_iff.mpr c700
    subst c700
    have H1 : (some true) = some true := rfl
    clear H
    have H := H1
    clear H1
    clear H
    go_wp2
    go_ret
    exact ⟨er, bq HB⟩

end Go.Proofs.Ytoneipoioiokcab.PFnHandsAhead
