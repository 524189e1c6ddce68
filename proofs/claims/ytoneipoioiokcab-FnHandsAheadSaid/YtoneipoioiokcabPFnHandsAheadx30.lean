/- A part of the walk of FnHandsAhead: which Lean function each Go function comes to, and that the machine's call does so. Written by a program of this repo (wip/gen/xprint.py). -/
import Derived.Test.YtoneipoioiokcabPFnHandsAheadx24
import Derived.Test.YtoneipoioiokcabPFnHandsAheadx25
import Derived.Test.YtoneipoioiokcabPFnHandsAheadx26
import Derived.Test.YtoneipoioiokcabPFnHandsAheadx27
import Derived.Test.YtoneipoioiokcabPFnHandsAheadx28
import Derived.Test.YtoneipoioiokcabPFnHandsAheadx29
namespace Go.Proofs.Ytoneipoioiokcab.PFnHandsAhead
open Go.RowKit Go.Proofs.YtoneipoioiokcabW.PrintWords Go.Proofs.YtoneipoioiokcabW.PrintLast Go.Proofs.YtoneipoioiokcabW.PrintMore
attribute [local go_sem] max2_int min2_int max_two min_two max_three min_three max_four min_four   -- for this text's walks alone
set_option linter.unusedVariables false
set_option linter.unusedSimpArgs false
attribute [local go_sem high] eqA25 eqA27
set_option maxHeartbeats 8000000 in
set_option maxRecDepth 100000 in
theorem laws_FnHandsAhead.rest2 {s63 s64 s65 s66 s67 s68 s69 s70 s71 s72 s73 s74 s75 s76 s77 s78 s79 s80 s81 s82 s83 s84 s85 s86 s87 s88 s89 s90 s91 s92 s93 s94 s95 s96 s97 s98 s99 s100 s101 s102 s103 s104 s105 s106 s107 s108 s109 s110 s111 s112 s113 s114 s115 s116 s117 s118 s119 s120 s121 s122 s123 s124 s125 s126 s127 s128 s129 s130 s131 s132 s133 s134 s135 s136 s137 s138 s139 s140 s141 s142 s143 s144 s145 s146 s147 s148 s149 s150 s151 s152 s153 s154 s155 s156 s157 s158 s159 s160 s161 s162 s163 s164 s165 s166 s167 s168 s169 s170 s171 s172 s173 s174 s175 s176 s177 s178 s179 s180 s181 s182 s183 s184 s185 s186 s187 s188 s189 s190 s191 s192 s193 s194 s195 s196 s197 s198 s199 s200 s201 s202 s203 s204 s205 s206 s207 s208 s209 s210 s211 s212 s213 s214 s215 s216 s217 s218 s219 s220 s221 s222 s223 s224 s225 s226 s227 s228 s229 s230 s231 s232 s233 s234 s235 s236 s237 s238 s239 s240 s241 s242 s243 s244 s245 s246 s247 s248 s249 s250 s251 s252 s253 s254 s255 s256 s257 s258 s259 s260 s261 s262 s263 s264 s265 s266 s267 s268 s269 s270 s271 s272 s273 s274 s275 s276 s277 s278 s279 s280 s281 s282 s283 s284 s285 s286 s287 s288 s289 s290 s291 s292 s293 s294 s295 s296 s297 s298 s299 s300 s301 s302 s303 s304 s305 s306 s307 s308 s309 s310 s311 s312 s313 s314 s315 s316 s317 s318 s319 s320 s321 s322 s323 s324 s325 s326 s327 s328 s329 s330 s331 s332 s333 s334 s335 s336 s337 s338 s339 s340 s341 s342 s343 s344 s345 s346 s347 s348 s349 s350 s351 s352 s353 s354 s355 s356 s357 s358 s359 s360 s361 s362 s363 s364 s365 s366 s367 s368 s369 s370 s371 s372 s373 s374 s375 s376 s377 s378 s379 s380 s381 s382 s383 s384 s385 s386 s387 s388 s389 s390 s391 s392 s393 s394 s395 s396 s397 s398 s399 s400 s401 s402 s403 s404 s405 s406 s407 s408 s409 s410 s411 s412 s413 s414 s415 s416 s417 : Value} {k : Nat} {A0 : Option Addr} {c0 : Nat} {l0 : List Int} {A1 : Option Addr} {c1 : Nat} {l1 : List Int} {w : World} {t527 t528 t529 t530 t531 t532 t533 t534 : Int} {t538 : List S25} {t541 : Bool} {t542 : List S25} {t545 : Bool} {t546 t547 : Int} {t548 : Bool} {t550 t551 : Int} {t552 : Bool} {t554 t555 t556 : Int} {t557 : Bool} {t559 t560 t561 : Int} {t562 : Bool} {t564 : List S25} {t567 : Bool} {t568 : List S25} {t571 : Bool} {gb535 gb536 gb537 : Nat} {v539 v543 : Value} {gb549 gb553 gb558 gb563 : Nat} {v565 v569 : Value} {kj13 : Nat} {wc : World} {u4 u25 u26 u27 : Value} {kq : Nat} (HR0 : Aside0 ((Kd.int IntKind.u8).C w A0 l0.length l0)) (HC0 : Aside0 (l0.length ≤ c0)) (HR1 : Aside0 ((Kd.int IntKind.u8).C w A1 l1.length l1)) (HC1 : Aside0 (l1.length ≤ c1)) (A3 : Aside0 (laws_big.f l0 l1 = some false)) (A5 : Aside0 (spec_DrawAheadTimes.f k l0 = some (t527, t528, t529, t530, t531, t532, t533, t534))) (A6 : Aside0 (impl_AheadTimes.f k t527 t528 t529 t530 t531 t532 t533 t534 = some (t538, t541))) (A7 : Aside0 (spec_AheadTimes.f k t527 t528 t529 t530 t531 t532 t533 t534 = some (t542, t545))) (A8 : Aside0 (impl_AheadAt.f k t527 t528 t529 t530 t531 t532 t533 t534 = some (t546, t547, t548))) (A9 : Aside0 (spec_AheadAt.f k t527 t528 t529 t530 t531 t532 t533 t534 = some (t550, t551, t552))) (A10 : Aside0 (impl_RelativeHand.f k t527 t528 t529 t530 t531 t532 = some (t554, t555, t556, t557))) (A11 : Aside0 (spec_RelativeHand.f k t527 t528 t529 t530 t531 t532 = some (t559, t560, t561, t562))) (A12 : Aside0 (impl_OppositeTimes.f k t527 t528 t529 t530 t531 t532 = some (t564, t567))) (A13 : Aside0 (spec_OppositeTimes.f k t527 t528 t529 t530 t531 t532 = some (t568, t571))) (GW535 : Aside0 (w.heap.size ≤ gb535)) (GE535 : Aside0 (w.heap.size ≤ gb535)) (GW536 : Aside0 (w.heap.size ≤ gb536)) (GE536 : Aside0 (w.heap.size ≤ gb536)) (NB535_536 : Aside0 (gb535 ≠ gb536)) (LT535_536 : Aside0 (gb535 < gb536)) (NB536_535 : Aside0 (gb536 ≠ gb535)) (GW537 : Aside0 (w.heap.size ≤ gb537)) (GE537 : Aside0 (w.heap.size ≤ gb537)) (NB535_537 : Aside0 (gb535 ≠ gb537)) (LT535_537 : Aside0 (gb535 < gb537)) (NB537_535 : Aside0 (gb537 ≠ gb535)) (NB536_537 : Aside0 (gb536 ≠ gb537)) (LT536_537 : Aside0 (gb536 < gb537)) (NB537_536 : Aside0 (gb537 ≠ gb536)) (GW549 : Aside0 (w.heap.size ≤ gb549)) (GE549 : Aside0 (w.heap.size ≤ gb549)) (NB535_549 : Aside0 (gb535 ≠ gb549)) (LT535_549 : Aside0 (gb535 < gb549)) (NB549_535 : Aside0 (gb549 ≠ gb535)) (NB536_549 : Aside0 (gb536 ≠ gb549)) (LT536_549 : Aside0 (gb536 < gb549)) (NB549_536 : Aside0 (gb549 ≠ gb536)) (NB537_549 : Aside0 (gb537 ≠ gb549)) (LT537_549 : Aside0 (gb537 < gb549)) (NB549_537 : Aside0 (gb549 ≠ gb537)) (GW553 : Aside0 (w.heap.size ≤ gb553)) (GE553 : Aside0 (w.heap.size ≤ gb553)) (NB535_553 : Aside0 (gb535 ≠ gb553)) (LT535_553 : Aside0 (gb535 < gb553)) (NB553_535 : Aside0 (gb553 ≠ gb535)) (NB536_553 : Aside0 (gb536 ≠ gb553)) (LT536_553 : Aside0 (gb536 < gb553)) (NB553_536 : Aside0 (gb553 ≠ gb536)) (NB537_553 : Aside0 (gb537 ≠ gb553)) (LT537_553 : Aside0 (gb537 < gb553)) (NB553_537 : Aside0 (gb553 ≠ gb537)) (NB549_553 : Aside0 (gb549 ≠ gb553)) (LT549_553 : Aside0 (gb549 < gb553)) (NB553_549 : Aside0 (gb553 ≠ gb549)) (GW558 : Aside0 (w.heap.size ≤ gb558)) (GE558 : Aside0 (w.heap.size ≤ gb558)) (NB535_558 : Aside0 (gb535 ≠ gb558)) (LT535_558 : Aside0 (gb535 < gb558)) (NB558_535 : Aside0 (gb558 ≠ gb535)) (NB536_558 : Aside0 (gb536 ≠ gb558)) (LT536_558 : Aside0 (gb536 < gb558)) (NB558_536 : Aside0 (gb558 ≠ gb536)) (NB537_558 : Aside0 (gb537 ≠ gb558)) (LT537_558 : Aside0 (gb537 < gb558)) (NB558_537 : Aside0 (gb558 ≠ gb537)) (NB549_558 : Aside0 (gb549 ≠ gb558)) (LT549_558 : Aside0 (gb549 < gb558)) (NB558_549 : Aside0 (gb558 ≠ gb549)) (NB553_558 : Aside0 (gb553 ≠ gb558)) (LT553_558 : Aside0 (gb553 < gb558)) (NB558_553 : Aside0 (gb558 ≠ gb553)) (GW563 : Aside0 (w.heap.size ≤ gb563)) (GE563 : Aside0 (w.heap.size ≤ gb563)) (NB535_563 : Aside0 (gb535 ≠ gb563)) (LT535_563 : Aside0 (gb535 < gb563)) (NB563_535 : Aside0 (gb563 ≠ gb535)) (NB536_563 : Aside0 (gb536 ≠ gb563)) (LT536_563 : Aside0 (gb536 < gb563)) (NB563_536 : Aside0 (gb563 ≠ gb536)) (NB537_563 : Aside0 (gb537 ≠ gb563)) (LT537_563 : Aside0 (gb537 < gb563)) (NB563_537 : Aside0 (gb563 ≠ gb537)) (NB549_563 : Aside0 (gb549 ≠ gb563)) (LT549_563 : Aside0 (gb549 < gb563)) (NB563_549 : Aside0 (gb563 ≠ gb549)) (NB553_563 : Aside0 (gb553 ≠ gb563)) (LT553_563 : Aside0 (gb553 < gb563)) (NB563_553 : Aside0 (gb563 ≠ gb553)) (NB558_563 : Aside0 (gb558 ≠ gb563)) (LT558_563 : Aside0 (gb558 < gb563)) (NB563_558 : Aside0 (gb563 ≠ gb558)) (HJ13 : Aside0 (kj13 + 1 ≤ k)) (HA : Aside0 (j3 kq l1 t548 t557 t564 t567 t527 t528 t529 t530 t531 t532 t533 t534 t546 t547 t554 t555 t556 = some true)) (HJ193 : Aside0 (kq ≤ kj13)) (HO_20 : Aside0 (k25.R 25 wc w.heap.size (fun (k_ : Nat) => k_ ≠ gb537 ∧ k_ ≠ gb549 ∧ k_ ≠ gb553) v565 t564)) (BK535 : Aside0 (wc.heap[gb535]? = some (Obj.cells #[Value.int IntKind.i64 t527, Value.int IntKind.i64 t528, Value.int IntKind.i64 t529] 27))) (BK536 : Aside0 (wc.heap[gb536]? = some (Obj.cells #[Value.int IntKind.i64 t530, Value.int IntKind.i64 t531, Value.int IntKind.i64 t532] 27))) (BK537 : Aside0 (wc.heap[gb537]? = some (Obj.cells #[Value.int IntKind.i64 t533, Value.int IntKind.i64 t534] 25))) (BK549 : Aside0 (wc.heap[gb549]? = some (Obj.cells #[Value.int IntKind.i64 t546, Value.int IntKind.i64 t547] 25))) (BK553 : Aside0 (wc.heap[gb553]? = some (Obj.cells #[Value.int IntKind.i64 t550, Value.int IntKind.i64 t551] 25))) (BK558 : Aside0 (wc.heap[gb558]? = some (Obj.cells #[Value.int IntKind.i64 t554, Value.int IntKind.i64 t555, Value.int IntKind.i64 t556] 27))) (HB : Aside0 (Below w.heap.size w wc)) : let K1_ : Exit → Act → World → Prop := bodyPost Try.prog Try.f3 fun (e : Ending) (w' : World) => e = Ending.returned (Value.bool true) ∧ Below w.heap.size w w'; ∀ (K3_ : Act → World → Prop), (∀ (a : Go.Act) (w : Go.World), Go.Code.wp Try.prog ((cutAt Try.f3 [2, 2, 2, 2, 2, 2, 2, 2, 2, 2, 2, 2, 2]).getD .skip) (K1_) a w → K3_ a w) → K3_ { tmps := #[Value.slice A0 l0.length c0, Value.slice A1 l1.length c1, undef, undef, u4, Value.pointer (some { block := gb535, off := 0 }), Value.pointer (some { block := gb536, off := 0 }), Value.pointer (some { block := gb537, off := 0 }), v539, Value.bool t541, v543, Value.bool t545, Value.pointer (some { block := gb549, off := 0 }), Value.bool t548, Value.pointer (some { block := gb553, off := 0 }), Value.bool t552, Value.pointer (some { block := gb558, off := 0 }), Value.bool t557, Value.pointer (some { block := gb563, off := 0 }), Value.bool t562, v565, Value.bool t567, v569, Value.bool t571, undef, u25, u26, u27, undef, undef, undef, undef, undef, undef, undef, undef, undef, undef, undef, undef, undef, undef, undef, undef, undef, undef, undef, undef, undef, undef, undef, undef, undef, undef, undef, undef, undef, undef, undef, undef, undef, undef, undef, s63, s64, s65, s66, s67, s68, s69, s70, s71, s72, s73, s74, s75, s76, s77, s78, s79, s80, s81, s82, s83, s84, s85, s86, s87, s88, s89, s90, s91, s92, s93, s94, s95, s96, s97, s98, s99, s100, s101, s102, s103, s104, s105, s106, s107, s108, s109, s110, s111, s112, s113, s114, s115, s116, s117, s118, s119, s120, s121, s122, s123, s124, s125, s126, s127, s128, s129, s130, s131, s132, s133, s134, s135, s136, s137, s138, s139, s140, s141, s142, s143, s144, s145, s146, s147, s148, s149, s150, s151, s152, s153, s154, s155, s156, s157, s158, s159, s160, s161, s162, s163, s164, s165, s166, s167, s168, s169, s170, s171, s172, s173, s174, s175, s176, s177, s178, s179, s180, s181, s182, s183, s184, s185, s186, s187, s188, s189, s190, s191, s192, s193, s194, s195, s196, s197, s198, s199, s200, s201, s202, s203, s204, s205, s206, s207, s208, s209, s210, s211, s212, s213, s214, s215, s216, s217, s218, s219, s220, s221, s222, s223, s224, s225, s226, s227, s228, s229, s230, s231, s232, s233, s234, s235, s236, s237, s238, s239, s240, s241, s242, s243, s244, s245, s246, s247, s248, s249, s250, s251, s252, s253, s254, s255, s256, s257, s258, s259, s260, s261, s262, s263, s264, s265, s266, s267, s268, s269, s270, s271, s272, s273, s274, s275, s276, s277, s278, s279, s280, s281, s282, s283, s284, s285, s286, s287, s288, s289, s290, s291, s292, s293, s294, s295, s296, s297, s298, s299, s300, s301, s302, s303, s304, s305, s306, s307, s308, s309, s310, s311, s312, s313, s314, s315, s316, s317, s318, s319, s320, s321, s322, s323, s324, s325, s326, s327, s328, s329, s330, s331, s332, s333, s334, s335, s336, s337, s338, s339, s340, s341, s342, s343, s344, s345, s346, s347, s348, s349, s350, s351, s352, s353, s354, s355, s356, s357, s358, s359, s360, s361, s362, s363, s364, s365, s366, s367, s368, s369, s370, s371, s372, s373, s374, s375, s376, s377, s378, s379, s380, s381, s382, s383, s384, s385, s386, s387, s388, s389, s390, s391, s392, s393, s394, s395, s396, s397, s398, s399, s400, s401, s402, s403, s404, s405, s406, s407, s408, s409, s410, s411, s412, s413, s414, s415, s416, s417], defers := [] } wc := by
  intro K1_ K3_ hK1_
  replace hK1_ := cut_open hK1_ rfl
  (try dsimp only)
  cases kq with
  | zero => exact absurd HA.1 (by simp [laws_FnHandsAhead.j3])
  | succ kj193 =>
    have H := HA.1
    clear HA
    simp only [laws_FnHandsAhead.j3] at H
    have HC274 := Aside0.mk H
    clear H
    go_upto_if 200 with (fail)
    go_cut [4, 29, 30, 31, 32, 33] from 200 to 237 (fun v4 v29 v30 v31 v32 v33 wc => ∃ (kq : Nat), Aside0 (laws_FnHandsAhead.j5 kq l1 t548 t557 t527 t528 t529 t530 t531 t532 t533 t534 t546 t547 t554 t555 t556 = some true) ∧ Aside0 (kq ≤ kj193) ∧ Aside0 (wc.heap[gb535]? = some (.cells #[.int .i64 t527, .int .i64 t528, .int .i64 t529] 27 (0, 0))) ∧ Aside0 (wc.heap[gb536]? = some (.cells #[.int .i64 t530, .int .i64 t531, .int .i64 t532] 27 (0, 0))) ∧ Aside0 (wc.heap[gb537]? = some (.cells #[.int .i64 t533, .int .i64 t534] 25 (0, 0))) ∧ Aside0 (wc.heap[gb549]? = some (.cells #[.int .i64 t546, .int .i64 t547] 25 (0, 0))) ∧ Aside0 (wc.heap[gb553]? = some (.cells #[.int .i64 t550, .int .i64 t551] 25 (0, 0))) ∧ Aside0 (wc.heap[gb558]? = some (.cells #[.int .i64 t554, .int .i64 t555, .int .i64 t556] 27 (0, 0))) ∧ Aside0 (Below w.heap.size w wc))
    case first =>
      have H := HC274.1
      clear HC274
      by_cases c275 : t567 = true
      · subst c275
        rw [if_pos rfl] at H
        have H' := Aside0.mk H
        clear H
        obtain ⟨Ao276, co276, eo276⟩ := Kd.R_slice HO_20.1
        subst eo276
        go_wp2
        go_loopg [203] kj193 (fun kq v203 w' => ∃ (x203_3 : Int), v203 = .int .i64 x203_3 ∧ Aside0 (laws_FnHandsAhead.l1 kq l1 t548 t557 t564 (t564.length : Int) x203_3 t527 t528 t529 t530 t531 t532 t533 t534 t546 t547 t554 t555 t556 = some true) ∧ Aside0 (kq ≤ kj193) ∧ Aside0 (Kd.R k25 25 w' w.heap.size (fun k_ => k_ ≠ gb537 ∧ k_ ≠ gb549 ∧ k_ ≠ gb553) (.slice Ao276 t564.length co276) t564) ∧ Aside0 (w'.heap[gb535]? = some (.cells #[.int .i64 t527, .int .i64 t528, .int .i64 t529] 27 (0, 0))) ∧ Aside0 (w'.heap[gb536]? = some (.cells #[.int .i64 t530, .int .i64 t531, .int .i64 t532] 27 (0, 0))) ∧ Aside0 (w'.heap[gb537]? = some (.cells #[.int .i64 t533, .int .i64 t534] 25 (0, 0))) ∧ Aside0 (w'.heap[gb549]? = some (.cells #[.int .i64 t546, .int .i64 t547] 25 (0, 0))) ∧ Aside0 (w'.heap[gb553]? = some (.cells #[.int .i64 t550, .int .i64 t551] 25 (0, 0))) ∧ Aside0 (w'.heap[gb558]? = some (.cells #[.int .i64 t554, .int .i64 t555, .int .i64 t556] 27 (0, 0))) ∧ Aside0 (Below w.heap.size w w'))
        case atStart => exact ⟨(0), ew, H', ⟨Nat.le_refl _⟩, ⟨rq HO_20⟩, ⟨bk BK535⟩, ⟨bk BK536⟩, ⟨bk BK537⟩, ⟨bk BK549⟩, ⟨bk BK553⟩, ⟨bk BK558⟩, ⟨bq HB⟩⟩
        case round =>
          clear H'
          try clear c1
          try clear c4
          try clear c193
          try clear c275
          try clear hcz21_0
          try clear hcz21_1
          try clear hcz21_2
          try clear hcz23_0
          try clear hcz23_1
          try clear hcz23_2
          try clear hcz24_0
          try clear hcz24_1
          try clear hcz26_0
          try clear hcz26_1
          try clear hcz26_2
          try clear hcz27_0
          try clear hcz27_1
          try clear hcz27_2
          try clear hcz28_0
          try clear hcz28_1
          try clear hcz30_0
          try clear hcz30_1
          try clear hcz30_2
          try clear hcz31_0
          try clear hcz31_1
          try clear hcz31_2
          try clear hcz32_0
          try clear hcz32_1
          try clear hcz38_0
          try clear hcz38_1
          try clear hcz39_0
          try clear hcz39_1
          try clear hcz39_2
          try clear hcz40_0
          try clear hcz40_1
          try clear hcz40_2
          try clear hcz41_0
          try clear hcz41_1
          try clear hcz48_0
          try clear hcz48_1
          try clear hcz49_0
          try clear hcz49_1
          try clear hcz49_2
          try clear hcz50_0
          try clear hcz50_1
          try clear hcz50_2
          try clear hcz58_0
          try clear hcz58_1
          try clear hcz58_2
          try clear hcz59_0
          try clear hcz59_1
          try clear hcz59_2
          try clear hcz60_0
          try clear hcz60_1
          try clear hcz60_2
          try clear hcz69_0
          try clear hcz69_1
          try clear hcz69_2
          try clear hcz70_0
          try clear hcz70_1
          try clear hcz70_2
          try clear hcz71_0
          try clear hcz71_1
          try clear hcz71_2
          try clear hcz73_0
          try clear hcz73_1
          try clear hcz73_2
          try clear hcz74_0
          try clear hcz74_1
          try clear hcz74_2
          try clear hfz21_0
          try clear hfz21_1
          try clear hfz21_2
          try clear hfz23_0
          try clear hfz23_1
          try clear hfz23_2
          try clear hfz24_0
          try clear hfz24_1
          try clear hfz26_0
          try clear hfz26_1
          try clear hfz26_2
          try clear hfz27_0
          try clear hfz27_1
          try clear hfz27_2
          try clear hfz28_0
          try clear hfz28_1
          try clear hfz30_0
          try clear hfz30_1
          try clear hfz30_2
          try clear hfz31_0
          try clear hfz31_1
          try clear hfz31_2
          try clear hfz32_0
          try clear hfz32_1
          try clear hfz38_0
          try clear hfz38_1
          try clear hfz39_0
          try clear hfz39_1
          try clear hfz39_2
          try clear hfz40_0
          try clear hfz40_1
          try clear hfz40_2
          try clear hfz41_0
          try clear hfz41_1
          try clear hfz48_0
          try clear hfz48_1
          try clear hfz49_0
          try clear hfz49_1
          try clear hfz49_2
          try clear hfz50_0
          try clear hfz50_1
          try clear hfz50_2
          try clear hfz58_0
          try clear hfz58_1
          try clear hfz58_2
          try clear hfz59_0
          try clear hfz59_1
          try clear hfz59_2
          try clear hfz60_0
          try clear hfz60_1
          try clear hfz60_2
          try clear hfz69_0
          try clear hfz69_1
          try clear hfz69_2
          try clear hfz70_0
          try clear hfz70_1
          try clear hfz70_2
          try clear hfz71_0
          try clear hfz71_1
          try clear hfz71_2
          try clear hfz73_0
          try clear hfz73_1
          try clear hfz73_2
          try clear hfz74_0
          try clear hfz74_1
          try clear hfz74_2
          obtain ⟨x203_3, rfl, HA, HK3, HO_201, BK535, BK536, BK537, BK549, BK553, BK558, HB⟩ := hrel
          cases gk with
          | zero => exact absurd HA.1 (by simp [laws_FnHandsAhead.l1])
          | succ k3 =>
            have H := HA.1
            clear HA
            simp only [laws_FnHandsAhead.l1] at H
            by_cases c277 : x203_3 < (t564.length : Int)
            · rw [if_pos c277] at H
              have c277b0 : decide (x203_3 < (t564.length : Int)) = true := decide_eq_true c277
              clear c277
              (first | rw [c277b0] | (simp only [i64_w, i32_w]; rw [c277b0]) | skip)
              by_cases c278 : 0 ≤ x203_3
              · rw [if_pos c278] at H
                have c278b0 : decide (0 ≤ x203_3) = true := decide_eq_true c278
                clear c278
                by_cases c279 : x203_3 < (t564.length : Int)
                · rw [if_pos c279] at H
                  have c279b0 : decide (x203_3 < (t564.length : Int)) = true := decide_eq_true c279
                  clear c279
                  replace H := Option.bind_eq_some_iff.mp H
                  obtain ⟨⟨t584, t585, t586⟩, A2800, H⟩ := H
                  (try dsimp only at H)
                  have A280 := Aside0.mk A2800
                  clear A2800
                  replace H := Option.bind_eq_some_iff.mp H
                  obtain ⟨⟨t588, t589, t590⟩, A2810, H⟩ := H
                  (try dsimp only at H)
                  have A281 := Aside0.mk A2810
                  clear A2810
                  by_cases c282 : t586 = true
                  · subst c282
                    rw [if_pos rfl] at H
                    by_cases c283 : (!(t584 == 1) || (!(t585 == 2))) = true
                    · rw [if_pos c283] at H
                      have c283b0 : (!(t584 == 1) || (!(t585 == 2))) = true := c283
                      clear c283
                      exact absurd H (by simp)
                    rw [if_neg c283] at H
                    have c283b0 : (!(t584 == 1) || (!(t585 == 2))) = false := by simpa using c283
                    clear c283
                    by_cases c284 : t590 = true
                    · subst c284
                      rw [if_pos rfl] at H
                      by_cases c285 : (!(t588 == t584) || (!(t589 == t585))) = true
                      · rw [if_pos c285] at H
                        have c285b0 : (!(t588 == t584) || (!(t589 == t585))) = true := c285
                        clear c285
                        exact absurd H (by simp)
                      rw [if_neg c285] at H
                      have c285b0 : (!(t588 == t584) || (!(t589 == t585))) = false := by simpa using c285
                      clear c285
                      have H' := Aside0.mk H
                      clear H
                      have p582 : 0 ≤ (x203_3 : Int) := of_decide_eq_true (by first | (with_reducible assumption) | assumption)
                      have q582 : x203_3 < (t564.length : Int) := of_decide_eq_true (by first | (with_reducible assumption) | assumption)
                      obtain ⟨ad582, e582, hx582_0, hx582_1⟩ := at_T25 (Kd.R_reads' HO_201.1).2.2 x203_3 p582 q582
                      cases e582
                      replace p582 := eq_true p582
                      replace q582 := eq_true q582
                      go_wp2_with (first | ((with_reducible refine gate_dst (N := 29) rfl ?_); (try (refine gate_guard (by rfl) ?_; dsimp only)); refine be #[.int .i64 0, .int .i64 0] 25 ?_; intro gb583 hg w286 hbox hb; replace HO_201 := Aside0.mk (Kd.R_below (Kd.R_elderB (rq HO_201) gb583 (Nat.le_of_eq hg.symm)) hb); have BK583 := Aside0.mk hbox; have GW583 := zs HB hg; have GE583 := zs HB hg; have NB535_583 := zn BK535 hg; have LT535_583 := zo BK535 hg; have NB583_535 := zm BK535 hg; have NB536_583 := zn BK536 hg; have LT536_583 := zo BK536 hg; have NB583_536 := zm BK536 hg; have NB537_583 := zn BK537 hg; have LT537_583 := zo BK537 hg; have NB583_537 := zm BK537 hg; have NB549_583 := zn BK549 hg; have LT549_583 := zo BK549 hg; have NB583_549 := zm BK549 hg; have NB553_583 := zn BK553 hg; have LT553_583 := zo BK553 hg; have NB583_553 := zm BK553 hg; have NB558_583 := zn BK558 hg; have LT558_583 := zo BK558 hg; have NB583_558 := zm BK558 hg; replace BK535 := zb BK535 hb; replace BK536 := zb BK536 hb; replace BK537 := zb BK537 hb; replace BK549 := zb BK549 hb; replace BK553 := zb BK553 hb; replace BK558 := zb BK558 hb; replace HB := zB HB hb; clear hb hbox hg; have hnc287 := LT535_583.1; have hnc288 := LT536_583.1; have hnc289 := LT537_583.1; have hnc290 := LT549_583.1; have hnc291 := LT553_583.1; have hnc292 := LT558_583.1; obtain ⟨hcz294_0, hcz294_1, hfz294_0, hfz294_1⟩ := zc2 BK583; have hnb295 := LT535_536.1; have hnb296 := LT535_537.1; have hnb297 := LT535_549.1; have hnb298 := LT535_553.1; have hnb299 := LT535_558.1; obtain ⟨hcz301_0, hcz301_1, hcz301_2, hfz301_0, hfz301_1, hfz301_2⟩ := zc3 BK535; have hnb302 := LT536_537.1; have hnb303 := LT536_549.1; have hnb304 := LT536_553.1; have hnb305 := LT536_558.1; obtain ⟨hcz307_0, hcz307_1, hcz307_2, hfz307_0, hfz307_1, hfz307_2⟩ := zc3 BK536) | ((with_reducible refine gate_callee (f := 8) rfl ?_); refine gl (some 211) Try.func8 #[.agg #[.int .i64 t527, .int .i64 t528, .int .i64 t529], .agg #[.int .i64 t530, .int .i64 t531, .int .i64 t532], .agg #[.int .i64 ((rd_T25 t564 x203_3).f0), .int .i64 ((rd_T25 t564 x203_3).f1)]] ?_; (with_reducible refine (impl_AheadAt.calls k3 t527 t528 t529 t530 t531 t532 ((rd_T25 t564 x203_3).f0) ((rd_T25 t564 x203_3).f1) t584 t585 true _ A280.1).mono ?_); rintro e w308 ⟨rfl, hb⟩; refine ⟨_, rfl, ?_⟩; replace HO_201 := Aside0.mk (Kd.R_below (by (with_reducible repeat (first | apply Kd.R_alloc | apply Kd.R_drewN | apply Kd.R_drew)); exact (Kd.R_mono (Kd.R_far (p := ⟨gb583, 1, none⟩) (Kd.R_far (p := ⟨gb583, 0, none⟩) (Kd.R_mono HO_201.1 (fun k_ hk => (⟨hk, hk.2⟩ : _ ∧ k_ ≠ gb583))) (fun _ hk => hk.2) (.int .i64 ((rd_T25 t564 x203_3).f0))) (fun _ hk => hk.2) (.int .i64 ((rd_T25 t564 x203_3).f1))) (fun _ h_ => h_.1))) hb); replace BK535 := zy (o' := .cells #[.int .i64 t527, .int .i64 t528, .int .i64 t529] 27 (0, 0)) BK535 hb; replace BK536 := zy (o' := .cells #[.int .i64 t530, .int .i64 t531, .int .i64 t532] 27 (0, 0)) BK536 hb; replace BK537 := zy (o' := .cells #[.int .i64 t533, .int .i64 t534] 25 (0, 0)) BK537 hb; replace BK549 := zy (o' := .cells #[.int .i64 t546, .int .i64 t547] 25 (0, 0)) BK549 hb; replace BK553 := zy (o' := .cells #[.int .i64 t550, .int .i64 t551] 25 (0, 0)) BK553 hb; replace BK558 := zy (o' := .cells #[.int .i64 t554, .int .i64 t555, .int .i64 t556] 27 (0, 0)) BK558 hb; replace BK583 := zy (o' := .cells #[.int .i64 ((rd_T25 t564 x203_3).f0), .int .i64 ((rd_T25 t564 x203_3).f1)] 25 (0, 0)) BK583 hb; replace HB := zB HB hb; clear hb) | ((with_reducible refine gate_dst (N := 30) rfl ?_); (try (refine gate_guard (by rfl) ?_; dsimp only)); refine be #[.int .i64 0, .int .i64 0] 25 ?_; intro gb587 hg w309 hbox hb; replace HO_201 := Aside0.mk (Kd.R_below (Kd.R_elderB (rq HO_201) gb587 (Nat.le_of_eq hg.symm)) hb); have BK587 := Aside0.mk hbox; have GW587 := zs HB hg; have GE587 := zs HB hg; have NB535_587 := zn BK535 hg; have LT535_587 := zo BK535 hg; have NB587_535 := zm BK535 hg; have NB536_587 := zn BK536 hg; have LT536_587 := zo BK536 hg; have NB587_536 := zm BK536 hg; have NB537_587 := zn BK537 hg; have LT537_587 := zo BK537 hg; have NB587_537 := zm BK537 hg; have NB549_587 := zn BK549 hg; have LT549_587 := zo BK549 hg; have NB587_549 := zm BK549 hg; have NB553_587 := zn BK553 hg; have LT553_587 := zo BK553 hg; have NB587_553 := zm BK553 hg; have NB558_587 := zn BK558 hg; have LT558_587 := zo BK558 hg; have NB587_558 := zm BK558 hg; have NB583_587 := zn BK583 hg; have LT583_587 := zo BK583 hg; have NB587_583 := zm BK583 hg; replace BK535 := zb BK535 hb; replace BK536 := zb BK536 hb; replace BK537 := zb BK537 hb; replace BK549 := zb BK549 hb; replace BK553 := zb BK553 hb; replace BK558 := zb BK558 hb; replace BK583 := zb BK583 hb; replace HB := zB HB hb; clear hb hbox hg; have hnc310 := LT535_587.1; have hnc311 := LT536_587.1; have hnc312 := LT537_587.1; have hnc313 := LT549_587.1; have hnc314 := LT553_587.1; have hnc315 := LT558_587.1; have hnc317 := LT583_587.1; obtain ⟨hcz318_0, hcz318_1, hfz318_0, hfz318_1⟩ := zc2 BK587; obtain ⟨hcz319_0, hcz319_1, hcz319_2, hfz319_0, hfz319_1, hfz319_2⟩ := zc3 BK536; obtain ⟨hcz320_0, hcz320_1, hcz320_2, hfz320_0, hfz320_1, hfz320_2⟩ := zc3 BK535; obtain ⟨hcz321_0, hcz321_1, hfz321_0, hfz321_1⟩ := zc2 BK583) | ((with_reducible refine gate_callee (f := 8) rfl ?_); refine gl (some 218) Try.func8 #[.agg #[.int .i64 t530, .int .i64 t531, .int .i64 t532], .agg #[.int .i64 t527, .int .i64 t528, .int .i64 t529], .agg #[.int .i64 ((rd_T25 t564 x203_3).f0), .int .i64 ((rd_T25 t564 x203_3).f1)]] ?_; (with_reducible refine (impl_AheadAt.calls k3 t530 t531 t532 t527 t528 t529 ((rd_T25 t564 x203_3).f0) ((rd_T25 t564 x203_3).f1) t588 t589 true _ A281.1).mono ?_); rintro e w322 ⟨rfl, hb⟩; refine ⟨_, rfl, ?_⟩; replace HO_201 := Aside0.mk (Kd.R_below (by (with_reducible repeat (first | apply Kd.R_alloc | apply Kd.R_drewN | apply Kd.R_drew)); exact (Kd.R_mono (Kd.R_far (p := ⟨gb587, 1, none⟩) (Kd.R_far (p := ⟨gb587, 0, none⟩) (Kd.R_mono HO_201.1 (fun k_ hk => (⟨hk, hk.2⟩ : _ ∧ k_ ≠ gb587))) (fun _ hk => hk.2) (.int .i64 t584)) (fun _ hk => hk.2) (.int .i64 t585)) (fun _ h_ => h_.1))) hb); replace BK535 := zy (o' := .cells #[.int .i64 t527, .int .i64 t528, .int .i64 t529] 27 (0, 0)) BK535 hb; replace BK536 := zy (o' := .cells #[.int .i64 t530, .int .i64 t531, .int .i64 t532] 27 (0, 0)) BK536 hb; replace BK537 := zy (o' := .cells #[.int .i64 t533, .int .i64 t534] 25 (0, 0)) BK537 hb; replace BK549 := zy (o' := .cells #[.int .i64 t546, .int .i64 t547] 25 (0, 0)) BK549 hb; replace BK553 := zy (o' := .cells #[.int .i64 t550, .int .i64 t551] 25 (0, 0)) BK553 hb; replace BK558 := zy (o' := .cells #[.int .i64 t554, .int .i64 t555, .int .i64 t556] 27 (0, 0)) BK558 hb; replace BK583 := zy (o' := .cells #[.int .i64 ((rd_T25 t564 x203_3).f0), .int .i64 ((rd_T25 t564 x203_3).f1)] 25 (0, 0)) BK583 hb; replace BK587 := zy (o' := .cells #[.int .i64 t584, .int .i64 t585] 25 (0, 0)) BK587 hb; replace HB := zB HB hb; clear hb) | ((with_reducible refine gate_dst (N := 32) rfl ?_); (try (refine gate_guard (by rfl) ?_; dsimp only)); refine be #[.int .i64 0, .int .i64 0] 25 ?_; intro gb591 hg w323 hbox hb; replace HO_201 := Aside0.mk (Kd.R_below (Kd.R_elderB (rq HO_201) gb591 (Nat.le_of_eq hg.symm)) hb); have BK591 := Aside0.mk hbox; have GW591 := zs HB hg; have GE591 := zs HB hg; have NB535_591 := zn BK535 hg; have LT535_591 := zo BK535 hg; have NB591_535 := zm BK535 hg; have NB536_591 := zn BK536 hg; have LT536_591 := zo BK536 hg; have NB591_536 := zm BK536 hg; have NB537_591 := zn BK537 hg; have LT537_591 := zo BK537 hg; have NB591_537 := zm BK537 hg; have NB549_591 := zn BK549 hg; have LT549_591 := zo BK549 hg; have NB591_549 := zm BK549 hg; have NB553_591 := zn BK553 hg; have LT553_591 := zo BK553 hg; have NB591_553 := zm BK553 hg; have NB558_591 := zn BK558 hg; have LT558_591 := zo BK558 hg; have NB591_558 := zm BK558 hg; have NB583_591 := zn BK583 hg; have LT583_591 := zo BK583 hg; have NB591_583 := zm BK583 hg; have NB587_591 := zn BK587 hg; have LT587_591 := zo BK587 hg; have NB591_587 := zm BK587 hg; replace BK535 := zb BK535 hb; replace BK536 := zb BK536 hb; replace BK537 := zb BK537 hb; replace BK549 := zb BK549 hb; replace BK553 := zb BK553 hb; replace BK558 := zb BK558 hb; replace BK583 := zb BK583 hb; replace BK587 := zb BK587 hb; replace HB := zB HB hb; clear hb hbox hg; have hnc324 := LT535_591.1; have hnc325 := LT536_591.1; have hnc326 := LT537_591.1; have hnc327 := LT549_591.1; have hnc328 := LT553_591.1; have hnc329 := LT558_591.1; have hnc331 := LT583_591.1; have hnc332 := LT587_591.1; obtain ⟨hcz333_0, hcz333_1, hfz333_0, hfz333_1⟩ := zc2 BK591; obtain ⟨hcz334_0, hcz334_1, hfz334_0, hfz334_1⟩ := zc2 BK587))
                      go_roundg k3
                      case measure => have := HJ13.1; have := HJ193.1; have := HK3.1; omega
                      case rel => exact ⟨(wrap64 (x203_3 + 1)), ew, H', ⟨by have := HJ13.1; have := HJ193.1; have := HK3.1; omega⟩, ⟨by (with_reducible repeat (first | apply Kd.R_alloc | apply Kd.R_drewN | apply Kd.R_drew)); exact Kd.R_mono (Kd.R_far (p := ⟨gb591, 1, none⟩) (Kd.R_far (p := ⟨gb591, 0, none⟩) (Kd.R_mono HO_201.1 (fun k_ hk => (⟨hk, hk.2⟩ : _ ∧ k_ ≠ gb591))) (fun _ hk => hk.2) (.int .i64 t588)) (fun _ hk => hk.2) (.int .i64 t589)) (fun _ hk => ⟨hk.1.1.1.1.1, ⟨hk.1.1.1.1.2.1, hk.1.1.1.1.2.2⟩⟩)⟩, ⟨bk BK535⟩, ⟨bk BK536⟩, ⟨bk BK537⟩, ⟨bk BK549⟩, ⟨bk BK553⟩, ⟨bk BK558⟩, ⟨bq HB⟩⟩
                    replace c284 := Bool.eq_false_iff.mpr c284
                    subst c284
                    rw [if_neg (show ¬ (false = true) by decide)] at H
                    exact absurd H (by simp)
                  replace c282 := Bool.eq_false_iff.mpr c282
                  subst c282
                  rw [if_neg (show ¬ (false = true) by decide)] at H
                  exact absurd H (by simp)
                rw [if_neg c279] at H
                exact absurd H (by simp)
              rw [if_neg c278] at H
              exact absurd H (by simp)
            rw [if_neg c277] at H
            have c277b0 : decide (x203_3 < (t564.length : Int)) = false := decide_eq_false c277
            clear c277
            (first | rw [c277b0] | (simp only [i64_w, i32_w]; rw [c277b0]) | skip)
            have H' := Aside0.mk H
            clear H
            go_wp2
            go_meet
            case rel => exact ⟨_, H', ⟨by have := HJ13.1; have := HJ193.1; have := HK3.1; first | omega | exact Nat.le_refl _⟩, ⟨bk BK535⟩, ⟨bk BK536⟩, ⟨bk BK537⟩, ⟨bk BK549⟩, ⟨bk BK553⟩, ⟨bk BK558⟩, ⟨bq HB⟩⟩
      replace c275 := Bool.eq_false_iff.mpr c275
      subst c275
      rw [if_neg (show ¬ (false = true) by decide)] at H
      have H' := Aside0.mk H
      clear H
      go_wp2
      go_meet
      case rel => exact ⟨_, H', ⟨by have := HJ13.1; have := HJ193.1; first | omega | exact Nat.le_refl _⟩, ⟨bk BK535⟩, ⟨bk BK536⟩, ⟨bk BK537⟩, ⟨bk BK549⟩, ⟨bk BK553⟩, ⟨bk BK558⟩, ⟨bq HB⟩⟩
    clear HC274
    try clear c1
    try clear c4
    try clear c193
    try clear hcz21_0
    try clear hcz21_1
    try clear hcz21_2
    try clear hcz23_0
    try clear hcz23_1
    try clear hcz23_2
    try clear hcz24_0
    try clear hcz24_1
    try clear hcz26_0
    try clear hcz26_1
    try clear hcz26_2
    try clear hcz27_0
    try clear hcz27_1
    try clear hcz27_2
    try clear hcz28_0
    try clear hcz28_1
    try clear hcz30_0
    try clear hcz30_1
    try clear hcz30_2
    try clear hcz31_0
    try clear hcz31_1
    try clear hcz31_2
    try clear hcz32_0
    try clear hcz32_1
    try clear hcz38_0
    try clear hcz38_1
    try clear hcz39_0
    try clear hcz39_1
    try clear hcz39_2
    try clear hcz40_0
    try clear hcz40_1
    try clear hcz40_2
    try clear hcz41_0
    try clear hcz41_1
    try clear hcz48_0
    try clear hcz48_1
    try clear hcz49_0
    try clear hcz49_1
    try clear hcz49_2
    try clear hcz50_0
    try clear hcz50_1
    try clear hcz50_2
    try clear hcz58_0
    try clear hcz58_1
    try clear hcz58_2
    try clear hcz59_0
    try clear hcz59_1
    try clear hcz59_2
    try clear hcz60_0
    try clear hcz60_1
    try clear hcz60_2
    try clear hcz69_0
    try clear hcz69_1
    try clear hcz69_2
    try clear hcz70_0
    try clear hcz70_1
    try clear hcz70_2
    try clear hcz71_0
    try clear hcz71_1
    try clear hcz71_2
    try clear hcz73_0
    try clear hcz73_1
    try clear hcz73_2
    try clear hcz74_0
    try clear hcz74_1
    try clear hcz74_2
    try clear hfz21_0
    try clear hfz21_1
    try clear hfz21_2
    try clear hfz23_0
    try clear hfz23_1
    try clear hfz23_2
    try clear hfz24_0
    try clear hfz24_1
    try clear hfz26_0
    try clear hfz26_1
    try clear hfz26_2
    try clear hfz27_0
    try clear hfz27_1
    try clear hfz27_2
    try clear hfz28_0
    try clear hfz28_1
    try clear hfz30_0
    try clear hfz30_1
    try clear hfz30_2
    try clear hfz31_0
    try clear hfz31_1
    try clear hfz31_2
    try clear hfz32_0
    try clear hfz32_1
    try clear hfz38_0
    try clear hfz38_1
    try clear hfz39_0
    try clear hfz39_1
    try clear hfz39_2
    try clear hfz40_0
    try clear hfz40_1
    try clear hfz40_2
    try clear hfz41_0
    try clear hfz41_1
    try clear hfz48_0
    try clear hfz48_1
    try clear hfz49_0
    try clear hfz49_1
    try clear hfz49_2
    try clear hfz50_0
    try clear hfz50_1
    try clear hfz50_2
    try clear hfz58_0
    try clear hfz58_1
    try clear hfz58_2
    try clear hfz59_0
    try clear hfz59_1
    try clear hfz59_2
    try clear hfz60_0
    try clear hfz60_1
    try clear hfz60_2
    try clear hfz69_0
    try clear hfz69_1
    try clear hfz69_2
    try clear hfz70_0
    try clear hfz70_1
    try clear hfz70_2
    try clear hfz71_0
    try clear hfz71_1
    try clear hfz71_2
    try clear hfz73_0
    try clear hfz73_1
    try clear hfz73_2
    try clear hfz74_0
    try clear hfz74_1
    try clear hfz74_2
    obtain ⟨kq, HA, HJ273, BK535, BK536, BK537, BK549, BK553, BK558, HB⟩ := hcut
    exact laws_FnHandsAhead.rest3 HR0 HC0 HR1 HC1 A3 A5 A6 A7 A8 A9 A10 A11 A12 A13 GW535 GE535 GW536 GE536 NB535_536 LT535_536 NB536_535 GW537 GE537 NB535_537 LT535_537 NB537_535 NB536_537 LT536_537 NB537_536 GW549 GE549 NB535_549 LT535_549 NB549_535 NB536_549 LT536_549 NB549_536 NB537_549 LT537_549 NB549_537 GW553 GE553 NB535_553 LT535_553 NB553_535 NB536_553 LT536_553 NB553_536 NB537_553 LT537_553 NB553_537 NB549_553 LT549_553 NB553_549 GW558 GE558 NB535_558 LT535_558 NB558_535 NB536_558 LT536_558 NB558_536 NB537_558 LT537_558 NB558_537 NB549_558 LT549_558 NB558_549 NB553_558 LT553_558 NB558_553 GW563 GE563 NB535_563 LT535_563 NB563_535 NB536_563 LT536_563 NB563_536 NB537_563 LT537_563 NB563_537 NB549_563 LT549_563 NB563_549 NB553_563 LT553_563 NB563_553 NB558_563 LT558_563 NB563_558 HJ13 HJ193 HA HJ273 BK535 BK536 BK537 BK549 BK553 BK558 HB _ (fun a w h_ => by go_step; exact cut_lit h_ rfl)

end Go.Proofs.Ytoneipoioiokcab.PFnHandsAhead
