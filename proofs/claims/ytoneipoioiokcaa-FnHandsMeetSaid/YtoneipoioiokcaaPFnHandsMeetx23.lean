/- A part of the walk of FnHandsMeet: which Lean function each Go function comes to, and that the machine's call does so. Written by a program of this repo (wip/gen/xprint.py). -/
import Derived.Test.YtoneipoioiokcaaPFnHandsMeetx22
namespace Go.Proofs.Ytoneipoioiokcaa.PFnHandsMeet
open Go.RowKit Go.Proofs.YtoneipoioiokcaaW.PrintWords Go.Proofs.YtoneipoioiokcaaW.PrintLast Go.Proofs.YtoneipoioiokcaaW.PrintMore
attribute [local go_sem] max2_int min2_int max_two min_two max_three min_three max_four min_four   -- for this text's walks alone
set_option linter.unusedVariables false
set_option linter.unusedSimpArgs false
attribute [local go_sem high] eqA25
set_option maxHeartbeats 8000000 in
set_option maxRecDepth 100000 in
theorem laws_FnHandsMeet.rest2 {s45 s46 s47 s48 s49 s50 s51 s52 s53 s54 s55 s56 s57 s58 s59 s60 s61 s62 s63 s64 s65 s66 s67 s68 s69 s70 s71 s72 s73 s74 s75 s76 s77 s78 s79 s80 s81 s82 s83 s84 s85 s86 s87 s88 s89 s90 s91 s92 s93 s94 s95 s96 s97 s98 s99 s100 s101 s102 s103 s104 s105 s106 s107 s108 s109 s110 s111 s112 s113 s114 s115 s116 s117 s118 s119 s120 s121 s122 s123 s124 s125 s126 s127 s128 s129 s130 s131 s132 s133 s134 s135 s136 s137 s138 s139 s140 s141 s142 s143 s144 s145 s146 s147 s148 s149 s150 s151 s152 s153 s154 s155 s156 s157 s158 s159 s160 s161 s162 s163 s164 s165 s166 s167 s168 s169 s170 s171 s172 s173 s174 s175 s176 s177 s178 s179 s180 s181 s182 s183 s184 s185 s186 s187 s188 s189 s190 s191 s192 s193 s194 s195 s196 s197 s198 s199 s200 s201 s202 s203 s204 s205 s206 s207 s208 s209 s210 s211 s212 s213 s214 s215 s216 s217 s218 s219 s220 s221 s222 s223 s224 s225 s226 s227 s228 s229 s230 s231 s232 s233 s234 s235 s236 s237 s238 s239 s240 s241 s242 s243 s244 s245 s246 s247 s248 s249 s250 s251 s252 s253 s254 s255 s256 s257 s258 s259 s260 s261 s262 s263 s264 s265 s266 s267 s268 s269 s270 s271 s272 s273 s274 s275 s276 s277 s278 s279 s280 s281 s282 s283 s284 s285 s286 s287 s288 s289 s290 s291 s292 s293 s294 s295 s296 s297 s298 s299 s300 s301 s302 s303 s304 s305 s306 s307 s308 s309 s310 s311 s312 s313 s314 s315 s316 s317 s318 s319 s320 s321 s322 s323 s324 s325 s326 s327 s328 s329 s330 s331 s332 s333 s334 s335 s336 s337 s338 s339 s340 s341 s342 s343 s344 s345 s346 s347 s348 s349 s350 s351 s352 s353 s354 s355 s356 s357 s358 s359 s360 s361 s362 s363 s364 s365 s366 s367 s368 s369 s370 s371 s372 s373 : Value} {k : Nat} {A0 : Option Addr} {c0 : Nat} {l0 : List Int} {A1 : Option Addr} {c1 : Nat} {l1 : List Int} {w : World} {t517 t518 t519 t520 t521 t522 : Int} {t525 : List S25} {t528 : Bool} {t529 : List S25} {t532 : Bool} {t533 : Int} {t534 : Bool} {t535 : Int} {t536 : Bool} {t537 t538 : Int} {t539 : Bool} {t541 t542 : Int} {t543 : Bool} {t545 : List S25} {t548 : Bool} {t549 : List S25} {t552 : Bool} {gb523 gb524 : Nat} {v526 v530 : Value} {gb540 gb544 : Nat} {v546 v550 : Value} {kj13 : Nat} {wc : World} {u4 u23 u24 u25 u26 u27 u28 u29 u30 u31 u32 : Value} {kq : Nat} (HR0 : Aside0 ((Kd.int IntKind.u8).C w A0 l0.length l0)) (HC0 : Aside0 (l0.length ≤ c0)) (HR1 : Aside0 ((Kd.int IntKind.u8).C w A1 l1.length l1)) (HC1 : Aside0 (l1.length ≤ c1)) (A3 : Aside0 (laws_big.f l0 l1 = some false)) (A5 : Aside0 (spec_DrawMeetTimes.f k l0 = some (t517, t518, t519, t520, t521, t522))) (A6 : Aside0 (impl_MeetTimes.f k t517 t518 t519 t520 t521 t522 = some (t525, t528))) (A7 : Aside0 (spec_MeetTimes.f k t517 t518 t519 t520 t521 t522 = some (t529, t532))) (A8 : Aside0 (impl_CountMeets.f t517 t518 t519 t520 t521 t522 = some (t533, t534))) (A9 : Aside0 (spec_CountMeets.f k t517 t518 t519 t520 t521 t522 = some (t535, t536))) (A10 : Aside0 (impl_FirstMeet.f k t517 t518 t519 t520 t521 t522 = some (t537, t538, t539))) (A11 : Aside0 (spec_FirstMeet.f k t517 t518 t519 t520 t521 t522 = some (t541, t542, t543))) (A12 : Aside0 (impl_MeetPlaces.f k t517 t518 t519 t520 t521 t522 = some (t545, t548))) (A13 : Aside0 (spec_MeetPlaces.f k t517 t518 t519 t520 t521 t522 = some (t549, t552))) (GW523 : Aside0 (w.heap.size ≤ gb523)) (GE523 : Aside0 (w.heap.size ≤ gb523)) (GW524 : Aside0 (w.heap.size ≤ gb524)) (GE524 : Aside0 (w.heap.size ≤ gb524)) (NB523_524 : Aside0 (gb523 ≠ gb524)) (LT523_524 : Aside0 (gb523 < gb524)) (NB524_523 : Aside0 (gb524 ≠ gb523)) (GW540 : Aside0 (w.heap.size ≤ gb540)) (GE540 : Aside0 (w.heap.size ≤ gb540)) (NB523_540 : Aside0 (gb523 ≠ gb540)) (LT523_540 : Aside0 (gb523 < gb540)) (NB540_523 : Aside0 (gb540 ≠ gb523)) (NB524_540 : Aside0 (gb524 ≠ gb540)) (LT524_540 : Aside0 (gb524 < gb540)) (NB540_524 : Aside0 (gb540 ≠ gb524)) (GW544 : Aside0 (w.heap.size ≤ gb544)) (GE544 : Aside0 (w.heap.size ≤ gb544)) (NB523_544 : Aside0 (gb523 ≠ gb544)) (LT523_544 : Aside0 (gb523 < gb544)) (NB544_523 : Aside0 (gb544 ≠ gb523)) (NB524_544 : Aside0 (gb524 ≠ gb544)) (LT524_544 : Aside0 (gb524 < gb544)) (NB544_524 : Aside0 (gb544 ≠ gb524)) (NB540_544 : Aside0 (gb540 ≠ gb544)) (LT540_544 : Aside0 (gb540 < gb544)) (NB544_540 : Aside0 (gb544 ≠ gb540)) (HJ13 : Aside0 (kj13 + 1 ≤ k)) (HA : Aside0 (j4 kq l1 t533 t545 t548 = some true)) (HJ139 : Aside0 (kq ≤ kj13)) (HO_19 : Aside0 (k25.R 25 wc w.heap.size (fun (k_ : Nat) => k_ ≠ gb540 ∧ k_ ≠ gb544) v546 t545)) (BK540 : Aside0 (wc.heap[gb540]? = some (Obj.cells #[Value.int IntKind.i64 t537, Value.int IntKind.i64 t538] 25))) (BK544 : Aside0 (wc.heap[gb544]? = some (Obj.cells #[Value.int IntKind.i64 t541, Value.int IntKind.i64 t542] 25))) (HB : Aside0 (Below w.heap.size w wc)) : let K1_ : Exit → Act → World → Prop := bodyPost Try.prog Try.f3 fun (e : Ending) (w' : World) => e = Ending.returned (Value.bool true) ∧ Below w.heap.size w w'; ∀ (K3_ : Act → World → Prop), (∀ (a : Go.Act) (w : Go.World), Go.Code.wp Try.prog ((cutAt Try.f3 [2, 2, 2, 2, 2, 2, 2, 2, 2, 2, 2, 2, 2]).getD .skip) (K1_) a w → K3_ a w) → K3_ { tmps := #[Value.slice A0 l0.length c0, Value.slice A1 l1.length c1, undef, undef, u4, Value.pointer (some { block := gb523, off := 0 }), Value.pointer (some { block := gb524, off := 0 }), v526, Value.bool t528, v530, Value.bool t532, Value.int IntKind.i64 t533, Value.bool t534, Value.int IntKind.i64 t535, Value.bool t536, Value.pointer (some { block := gb540, off := 0 }), Value.bool t539, Value.pointer (some { block := gb544, off := 0 }), Value.bool t543, v546, Value.bool t548, v550, Value.bool t552, u23, u24, u25, u26, u27, u28, u29, u30, u31, u32, undef, undef, undef, undef, undef, undef, undef, undef, undef, undef, undef, undef, s45, s46, s47, s48, s49, s50, s51, s52, s53, s54, s55, s56, s57, s58, s59, s60, s61, s62, s63, s64, s65, s66, s67, s68, s69, s70, s71, s72, s73, s74, s75, s76, s77, s78, s79, s80, s81, s82, s83, s84, s85, s86, s87, s88, s89, s90, s91, s92, s93, s94, s95, s96, s97, s98, s99, s100, s101, s102, s103, s104, s105, s106, s107, s108, s109, s110, s111, s112, s113, s114, s115, s116, s117, s118, s119, s120, s121, s122, s123, s124, s125, s126, s127, s128, s129, s130, s131, s132, s133, s134, s135, s136, s137, s138, s139, s140, s141, s142, s143, s144, s145, s146, s147, s148, s149, s150, s151, s152, s153, s154, s155, s156, s157, s158, s159, s160, s161, s162, s163, s164, s165, s166, s167, s168, s169, s170, s171, s172, s173, s174, s175, s176, s177, s178, s179, s180, s181, s182, s183, s184, s185, s186, s187, s188, s189, s190, s191, s192, s193, s194, s195, s196, s197, s198, s199, s200, s201, s202, s203, s204, s205, s206, s207, s208, s209, s210, s211, s212, s213, s214, s215, s216, s217, s218, s219, s220, s221, s222, s223, s224, s225, s226, s227, s228, s229, s230, s231, s232, s233, s234, s235, s236, s237, s238, s239, s240, s241, s242, s243, s244, s245, s246, s247, s248, s249, s250, s251, s252, s253, s254, s255, s256, s257, s258, s259, s260, s261, s262, s263, s264, s265, s266, s267, s268, s269, s270, s271, s272, s273, s274, s275, s276, s277, s278, s279, s280, s281, s282, s283, s284, s285, s286, s287, s288, s289, s290, s291, s292, s293, s294, s295, s296, s297, s298, s299, s300, s301, s302, s303, s304, s305, s306, s307, s308, s309, s310, s311, s312, s313, s314, s315, s316, s317, s318, s319, s320, s321, s322, s323, s324, s325, s326, s327, s328, s329, s330, s331, s332, s333, s334, s335, s336, s337, s338, s339, s340, s341, s342, s343, s344, s345, s346, s347, s348, s349, s350, s351, s352, s353, s354, s355, s356, s357, s358, s359, s360, s361, s362, s363, s364, s365, s366, s367, s368, s369, s370, s371, s372, s373], defers := [] } wc := by
  intro K1_ K3_ hK1_
  replace hK1_ := cut_open hK1_ rfl
  (try dsimp only)
  cases kq with
  | zero => exact absurd HA.1 (by simp [laws_FnHandsMeet.j4])
  | succ kj139 =>
    have H := HA.1
    clear HA
    simp only [laws_FnHandsMeet.j4] at H
    have HC293 := Aside0.mk H
    clear H
    go_upto_region 31 with (fail)
    go_cut [284] from 268 to 284 (fun v284 wc => ∃ (kq : Nat) (x284_292 : Bool), v284 = .bool x284_292 ∧ Aside0 (laws_FnHandsMeet.j5 kq l1 x284_292 = some true) ∧ Aside0 (kq ≤ kj139) ∧ Aside0 (wc.heap[gb540]? = some (.cells #[.int .i64 t537, .int .i64 t538] 25 (0, 0))) ∧ Aside0 (wc.heap[gb544]? = some (.cells #[.int .i64 t541, .int .i64 t542] 25 (0, 0))) ∧ Aside0 (Below w.heap.size w wc))
    case first =>
      have H := HC293.1
      clear HC293
      by_cases c294 : t548 = true
      · subst c294
        rw [if_pos rfl] at H
        replace H := Option.bind_eq_some_iff.mp H
        obtain ⟨t585, A2950, H⟩ := H
        (try dsimp only at H)
        have A295 := Aside0.mk A2950
        clear A2950
        by_cases c296 : t585 = true
        · subst c296
          rw [if_pos rfl] at H
          by_cases c297 : (t545.length : Int) < 1
          · rw [if_pos c297] at H
            exact (laws_FnHandsMeet.j5_no H).elim
          rw [if_neg c297] at H
          have c297b0 : decide ((t545.length : Int) < 1) = false := decide_eq_false c297
          have c297b1 : decide (t545.length < 1) = false := decide_eq_false (by omega)
          clear c297
          (first | rw [c297b0] | (simp only [i64_w, i32_w]; rw [c297b0]) | skip)
          have H' := Aside0.mk H
          clear H
          obtain ⟨Ao299, co299, eo299⟩ := Kd.R_slice HO_19.1
          subst eo299
          go_wp2_with (first | (go_at_call 18; (with_reducible refine (laws_kRises.calls kj139 _ _ t545 true _ ?side1 ?side2 A295.1).mono ?_); (case side1 => repeat (first | exact (Kd.R_reads' HO_19.1).2.2 | (with_reducible refine Kd.C_alloc ?_ _) | (with_reducible refine Kd.C_drewN ?_ _) | (with_reducible refine Kd.C_drew ?_))); (case side2 => exact (Kd.R_reads' HO_19.1).2.1); rintro e w' ⟨rfl, ⟨nd, rfl⟩⟩))
          go_meet
          case rel => exact ⟨_, (decide ((t545.length : Int) > t533)), ew, H', ⟨by have := HJ13.1; have := HJ139.1; first | omega | exact Nat.le_refl _⟩, ⟨bk BK540⟩, ⟨bk BK544⟩, ⟨bq HB⟩⟩
        replace c296 := Bool.eq_false_iff.mpr c296
        subst c296
        have H1 := H
        rw [if_neg (show ¬ (false = true) by decide)] at H1
        clear H
        have H := H1
        exact (laws_FnHandsMeet.j5_no H).elim
      replace c294 := Bool.eq_false_iff.mpr c294
      subst c294
      rw [if_neg (show ¬ (false = true) by decide)] at H
      have H' := Aside0.mk H
      clear H
      go_wp2
      go_meet
      case rel => exact ⟨_, (false), ew, H', ⟨by have := HJ13.1; have := HJ139.1; first | omega | exact Nat.le_refl _⟩, ⟨bk BK540⟩, ⟨bk BK544⟩, ⟨bq HB⟩⟩
    clear HC293
    try clear c1
    obtain ⟨kq, x284_292, rfl, HA, HJ292, BK540, BK544, HB⟩ := hcut
    cases kq with
    | zero => exact absurd HA.1 (by simp [laws_FnHandsMeet.j5])
    | succ kj292 =>
      have H := HA.1
      clear HA
      simp only [laws_FnHandsMeet.j5] at H
      by_cases c301 : x284_292 = true
      · subst c301
        rw [if_pos rfl] at H
        exact absurd H (by simp)
      replace c301 := Bool.eq_false_iff.mpr c301
      subst c301
      rw [if_neg (show ¬ (false = true) by decide)] at H
      replace H := Option.bind_eq_some_iff.mp H
      obtain ⟨⟨t586, t587, t588, t589, t590, t591, t592, t593⟩, A3020, H⟩ := H
      (try dsimp only at H)
      have A302 := Aside0.mk A3020
      clear A3020
      replace H := Option.bind_eq_some_iff.mp H
      obtain ⟨⟨t597, t598, t599⟩, A3030, H⟩ := H
      (try dsimp only at H)
      have A303 := Aside0.mk A3030
      clear A3030
      replace H := Option.bind_eq_some_iff.mp H
      obtain ⟨⟨t601, t602, t603⟩, A3040, H⟩ := H
      (try dsimp only at H)
      have A304 := Aside0.mk A3040
      clear A3040
      have HC305 := Aside0.mk H
      clear H
      go_upto_region 36 with (first | ((with_reducible refine gate_callee (f := 22) rfl ?_); refine gl (some 287) Try.func22 #[.slice A1 l1.length c1] ?_; (with_reducible refine (spec_DrawNextMeet.calls kj292 _ _ l1 t586 t587 t588 t589 t590 t591 t592 t593 _ ?side1 ?side2 A302.1).mono ?_); (case side1 => repeat (first | exact (Kd.C_below HR1.1 HB.1) | (with_reducible refine Kd.C_alloc ?_ _) | (with_reducible refine Kd.C_drewN ?_ _) | (with_reducible refine Kd.C_drew ?_))); (case side2 => exact HC1.1); rintro e w306 ⟨rfl, hb⟩; refine ⟨_, rfl, ?_⟩; replace BK540 := zb BK540 hb; replace BK544 := zb BK544 hb; replace HB := zB HB hb; clear hb) | ((with_reducible refine gate_dst (N := 33) rfl ?_); (try (refine gate_guard (by rfl) ?_; dsimp only)); refine be #[.int .i64 0, .int .i64 0, .int .i64 0] 27 ?_; intro gb594 hg w307 hbox hb; have BK594 := Aside0.mk hbox; have GW594 := zs HB hg; have GE594 := zs HB hg; have NB540_594 := zn BK540 hg; have LT540_594 := zo BK540 hg; have NB594_540 := zm BK540 hg; have NB544_594 := zn BK544 hg; have LT544_594 := zo BK544 hg; have NB594_544 := zm BK544 hg; replace BK540 := zb BK540 hb; replace BK544 := zb BK544 hb; replace HB := zB HB hb; clear hb hbox hg) | ((with_reducible refine gate_dst (N := 34) rfl ?_); (try (refine gate_guard (by rfl) ?_; dsimp only)); refine be #[.int .i64 0, .int .i64 0, .int .i64 0] 27 ?_; intro gb595 hg w308 hbox hb; have BK595 := Aside0.mk hbox; have GW595 := zs HB hg; have GE595 := zs HB hg; have NB540_595 := zn BK540 hg; have LT540_595 := zo BK540 hg; have NB595_540 := zm BK540 hg; have NB544_595 := zn BK544 hg; have LT544_595 := zo BK544 hg; have NB595_544 := zm BK544 hg; have NB594_595 := zn BK594 hg; have LT594_595 := zo BK594 hg; have NB595_594 := zm BK594 hg; replace BK540 := zb BK540 hb; replace BK544 := zb BK544 hb; replace BK594 := zb BK594 hb; replace HB := zB HB hb; clear hb hbox hg) | ((with_reducible refine gate_dst (N := 35) rfl ?_); (try (refine gate_guard (by rfl) ?_; dsimp only)); refine be #[.int .i64 0, .int .i64 0] 25 ?_; intro gb596 hg w309 hbox hb; have BK596 := Aside0.mk hbox; have GW596 := zs HB hg; have GE596 := zs HB hg; have NB540_596 := zn BK540 hg; have LT540_596 := zo BK540 hg; have NB596_540 := zm BK540 hg; have NB544_596 := zn BK544 hg; have LT544_596 := zo BK544 hg; have NB596_544 := zm BK544 hg; have NB594_596 := zn BK594 hg; have LT594_596 := zo BK594 hg; have NB596_594 := zm BK594 hg; have NB595_596 := zn BK595 hg; have LT595_596 := zo BK595 hg; have NB596_595 := zm BK595 hg; replace BK540 := zb BK540 hb; replace BK544 := zb BK544 hb; replace BK594 := zb BK594 hb; replace BK595 := zb BK595 hb; replace HB := zB HB hb; clear hb hbox hg; have hnc312 := LT540_594.1; have hnc313 := LT544_594.1; have hnb314 := LT594_595.1; have hnb315 := LT594_596.1; obtain ⟨hcz316_0, hcz316_1, hcz316_2, hfz316_0, hfz316_1, hfz316_2⟩ := zc3 BK594; have hnc319 := LT540_595.1; have hnc320 := LT544_595.1; have hnb321 := LT595_596.1; obtain ⟨hcz322_0, hcz322_1, hcz322_2, hfz322_0, hfz322_1, hfz322_2⟩ := zc3 BK595; have hnc325 := LT540_596.1; have hnc326 := LT544_596.1; obtain ⟨hcz327_0, hcz327_1, hfz327_0, hfz327_1⟩ := zc2 BK596) | ((with_reducible refine gate_callee (f := 21) rfl ?_); refine gl (some 295) Try.func21 #[.agg #[.int .i64 t586, .int .i64 t587, .int .i64 t588], .agg #[.int .i64 t589, .int .i64 t590, .int .i64 t591], .agg #[.int .i64 t592, .int .i64 t593]] ?_; (with_reducible refine (impl_NextMeet.calls kj292 t586 t587 t588 t589 t590 t591 t592 t593 t597 t598 t599 _ A303.1).mono ?_); rintro e w328 ⟨rfl, hb⟩; refine ⟨_, rfl, ?_⟩; replace BK540 := zy (o' := .cells #[.int .i64 t537, .int .i64 t538] 25 (0, 0)) BK540 hb; replace BK544 := zy (o' := .cells #[.int .i64 t541, .int .i64 t542] 25 (0, 0)) BK544 hb; replace BK594 := zy (o' := .cells #[.int .i64 t586, .int .i64 t587, .int .i64 t588] 27 (0, 0)) BK594 hb; replace BK595 := zy (o' := .cells #[.int .i64 t589, .int .i64 t590, .int .i64 t591] 27 (0, 0)) BK595 hb; replace BK596 := zy (o' := .cells #[.int .i64 t592, .int .i64 t593] 25 (0, 0)) BK596 hb; replace HB := zB HB hb; clear hb) | ((with_reducible refine gate_dst (N := 36) rfl ?_); (try (refine gate_guard (by rfl) ?_; dsimp only)); refine be #[.int .i64 0, .int .i64 0] 25 ?_; intro gb600 hg w329 hbox hb; have BK600 := Aside0.mk hbox; have GW600 := zs HB hg; have GE600 := zs HB hg; have NB540_600 := zn BK540 hg; have LT540_600 := zo BK540 hg; have NB600_540 := zm BK540 hg; have NB544_600 := zn BK544 hg; have LT544_600 := zo BK544 hg; have NB600_544 := zm BK544 hg; have NB594_600 := zn BK594 hg; have LT594_600 := zo BK594 hg; have NB600_594 := zm BK594 hg; have NB595_600 := zn BK595 hg; have LT595_600 := zo BK595 hg; have NB600_595 := zm BK595 hg; have NB596_600 := zn BK596 hg; have LT596_600 := zo BK596 hg; have NB600_596 := zm BK596 hg; replace BK540 := zb BK540 hb; replace BK544 := zb BK544 hb; replace BK594 := zb BK594 hb; replace BK595 := zb BK595 hb; replace BK596 := zb BK596 hb; replace HB := zB HB hb; clear hb hbox hg; have hnc332 := LT540_600.1; have hnc333 := LT544_600.1; have hnc334 := LT594_600.1; have hnc335 := LT595_600.1; have hnc336 := LT596_600.1; obtain ⟨hcz337_0, hcz337_1, hfz337_0, hfz337_1⟩ := zc2 BK600; obtain ⟨hcz338_0, hcz338_1, hcz338_2, hfz338_0, hfz338_1, hfz338_2⟩ := zc3 BK594; obtain ⟨hcz339_0, hcz339_1, hcz339_2, hfz339_0, hfz339_1, hfz339_2⟩ := zc3 BK595; obtain ⟨hcz340_0, hcz340_1, hfz340_0, hfz340_1⟩ := zc2 BK596) | ((with_reducible refine gate_callee (f := 23) rfl ?_); refine gl (some 302) Try.func23 #[.agg #[.int .i64 t586, .int .i64 t587, .int .i64 t588], .agg #[.int .i64 t589, .int .i64 t590, .int .i64 t591], .agg #[.int .i64 t592, .int .i64 t593]] ?_; (with_reducible refine (spec_NextMeet.calls kj292 t586 t587 t588 t589 t590 t591 t592 t593 t601 t602 t603 _ A304.1).mono ?_); rintro e w341 ⟨rfl, hb⟩; refine ⟨_, rfl, ?_⟩; replace BK540 := zy (o' := .cells #[.int .i64 t537, .int .i64 t538] 25 (0, 0)) BK540 hb; replace BK544 := zy (o' := .cells #[.int .i64 t541, .int .i64 t542] 25 (0, 0)) BK544 hb; replace BK594 := zy (o' := .cells #[.int .i64 t586, .int .i64 t587, .int .i64 t588] 27 (0, 0)) BK594 hb; replace BK595 := zy (o' := .cells #[.int .i64 t589, .int .i64 t590, .int .i64 t591] 27 (0, 0)) BK595 hb; replace BK596 := zy (o' := .cells #[.int .i64 t592, .int .i64 t593] 25 (0, 0)) BK596 hb; replace BK600 := zy (o' := .cells #[.int .i64 t597, .int .i64 t598] 25 (0, 0)) BK600 hb; replace HB := zB HB hb; clear hb) | ((with_reducible refine gate_dst (N := 38) rfl ?_); (try (refine gate_guard (by rfl) ?_; dsimp only)); refine be #[.int .i64 0, .int .i64 0] 25 ?_; intro gb604 hg w342 hbox hb; have BK604 := Aside0.mk hbox; have GW604 := zs HB hg; have GE604 := zs HB hg; have NB540_604 := zn BK540 hg; have LT540_604 := zo BK540 hg; have NB604_540 := zm BK540 hg; have NB544_604 := zn BK544 hg; have LT544_604 := zo BK544 hg; have NB604_544 := zm BK544 hg; have NB594_604 := zn BK594 hg; have LT594_604 := zo BK594 hg; have NB604_594 := zm BK594 hg; have NB595_604 := zn BK595 hg; have LT595_604 := zo BK595 hg; have NB604_595 := zm BK595 hg; have NB596_604 := zn BK596 hg; have LT596_604 := zo BK596 hg; have NB604_596 := zm BK596 hg; have NB600_604 := zn BK600 hg; have LT600_604 := zo BK600 hg; have NB604_600 := zm BK600 hg; replace BK540 := zb BK540 hb; replace BK544 := zb BK544 hb; replace BK594 := zb BK594 hb; replace BK595 := zb BK595 hb; replace BK596 := zb BK596 hb; replace BK600 := zb BK600 hb; replace HB := zB HB hb; clear hb hbox hg; have hnc345 := LT540_604.1; have hnc346 := LT544_604.1; have hnc347 := LT594_604.1; have hnc348 := LT595_604.1; have hnc349 := LT596_604.1; have hnc350 := LT600_604.1; obtain ⟨hcz351_0, hcz351_1, hfz351_0, hfz351_1⟩ := zc2 BK604))
      (try simp only [Act.put, List.setIfInBounds_toArray, List.set_cons_zero, List.set_cons_succ])
      go_cut [312] from 305 to 312 (fun v312 wc => ∃ (kq : Nat) (x312_304 : Bool), v312 = .bool x312_304 ∧ Aside0 (laws_FnHandsMeet.j6 kq t599 x312_304 t586 t587 t588 t589 t590 t591 t592 t593 t597 t598 = some true) ∧ Aside0 (kq ≤ kj292) ∧ Aside0 (wc.heap[gb540]? = some (.cells #[.int .i64 t537, .int .i64 t538] 25 (0, 0))) ∧ Aside0 (wc.heap[gb544]? = some (.cells #[.int .i64 t541, .int .i64 t542] 25 (0, 0))) ∧ Aside0 (wc.heap[gb594]? = some (.cells #[.int .i64 t586, .int .i64 t587, .int .i64 t588] 27 (0, 0))) ∧ Aside0 (wc.heap[gb595]? = some (.cells #[.int .i64 t589, .int .i64 t590, .int .i64 t591] 27 (0, 0))) ∧ Aside0 (wc.heap[gb596]? = some (.cells #[.int .i64 t592, .int .i64 t593] 25 (0, 0))) ∧ Aside0 (wc.heap[gb600]? = some (.cells #[.int .i64 t597, .int .i64 t598] 25 (0, 0))) ∧ Aside0 (wc.heap[gb604]? = some (.cells #[.int .i64 t601, .int .i64 t602] 25 (0, 0))) ∧ Aside0 (Below w.heap.size w wc))
      case first =>
        have H := HC305.1
        clear HC305
        by_cases c352 : (t599 != t603) = true
        · rw [if_pos c352] at H
          exact (laws_FnHandsMeet.j6_no H).elim
        rw [if_neg c352] at H
        have c352b0 : (t599 != t603) = false := by simpa using c352
        (try (have c352b1 : decide (t599 = t603) = true := by simpa using c352))
        (try (have c352b2 : (t599 == t603) = true := by simpa using c352))
        clear c352
        (first | rw [c352b0] | (simp only [i64_w, i32_w]; rw [c352b0]) | skip)
        have H' := Aside0.mk H
        clear H
        have hnc355 := LT540_600.1
        have hnc356 := LT544_600.1
        have hnc357 := LT594_600.1
        have hnc358 := LT595_600.1
        have hnc359 := LT596_600.1
        have hnb360 := LT600_604.1
        obtain ⟨hcz361_0, hcz361_1, hfz361_0, hfz361_1⟩ := zc2 BK600
        have hnc364 := LT540_604.1
        have hnc365 := LT544_604.1
        have hnc366 := LT594_604.1
        have hnc367 := LT595_604.1
        have hnc368 := LT596_604.1
        obtain ⟨hcz369_0, hcz369_1, hfz369_0, hfz369_1⟩ := zc2 BK604
        go_wp2
        go_meet
        case rel => exact ⟨_, ((!(t597 == t601) || (!(t598 == t602)))), ew, H', ⟨by have := HJ13.1; have := HJ139.1; have := HJ292.1; first | omega | exact Nat.le_refl _⟩, ⟨bk BK540⟩, ⟨bk BK544⟩, ⟨bk BK594⟩, ⟨bk BK595⟩, ⟨bk BK596⟩, ⟨bk BK600⟩, ⟨bk BK604⟩, ⟨bq HB⟩⟩
      clear HC305
      try clear c1
      try clear c301
      try clear hcz316_0
      try clear hcz316_1
      try clear hcz316_2
      try clear hcz322_0
      try clear hcz322_1
      try clear hcz322_2
      try clear hcz327_0
      try clear hcz327_1
      try clear hcz337_0
      try clear hcz337_1
      try clear hcz338_0
      try clear hcz338_1
      try clear hcz338_2
      try clear hcz339_0
      try clear hcz339_1
      try clear hcz339_2
      try clear hcz340_0
      try clear hcz340_1
      try clear hcz351_0
      try clear hcz351_1
      try clear hfz316_0
      try clear hfz316_1
      try clear hfz316_2
      try clear hfz322_0
      try clear hfz322_1
      try clear hfz322_2
      try clear hfz327_0
      try clear hfz327_1
      try clear hfz337_0
      try clear hfz337_1
      try clear hfz338_0
      try clear hfz338_1
      try clear hfz338_2
      try clear hfz339_0
      try clear hfz339_1
      try clear hfz339_2
      try clear hfz340_0
      try clear hfz340_1
      try clear hfz351_0
      try clear hfz351_1
      obtain ⟨kq, x312_304, rfl, HA, HJ304, BK540, BK544, BK594, BK595, BK596, BK600, BK604, HB⟩ := hcut
      cases kq with
      | zero => exact absurd HA.1 (by simp [laws_FnHandsMeet.j6])
      | succ kj304 =>
        have H := HA.1
        clear HA
        simp only [laws_FnHandsMeet.j6] at H
        by_cases c370 : x312_304 = true
        · subst c370
          rw [if_pos rfl] at H
          exact absurd H (by simp)
        replace c370 := Bool.eq_false_iff.mpr c370
        subst c370
        rw [if_neg (show ¬ (false = true) by decide)] at H
        by_cases c371 : t599 = true
        · subst c371
          rw [if_pos rfl] at H
          replace H := Option.bind_eq_some_iff.mp H
          obtain ⟨⟨t605, t608⟩, A3720, H⟩ := H
          (try dsimp only at H)
          have A372 := Aside0.mk A3720
          clear A3720
          have HC373 := Aside0.mk H
          clear H
          have hnc376 := LT540_594.1
          have hnc377 := LT544_594.1
          have hnb378 := LT594_595.1
          have hnb379 := LT594_596.1
          have hnb380 := LT594_600.1
          have hnb381 := LT594_604.1
          obtain ⟨hcz382_0, hcz382_1, hcz382_2, hfz382_0, hfz382_1, hfz382_2⟩ := zc3 BK594
          have hnc385 := LT540_595.1
          have hnc386 := LT544_595.1
          have hnb387 := LT595_596.1
          have hnb388 := LT595_600.1
          have hnb389 := LT595_604.1
          obtain ⟨hcz390_0, hcz390_1, hcz390_2, hfz390_0, hfz390_1, hfz390_2⟩ := zc3 BK595
          go_upto_region 40 with (first | ((with_reducible refine gate_callee (f := 6) rfl ?_); refine gl (some 317) Try.func6 #[.agg #[.int .i64 t586, .int .i64 t587, .int .i64 t588], .agg #[.int .i64 t589, .int .i64 t590, .int .i64 t591]] ?_; (with_reducible refine (impl_MeetTimes.calls kj304 t586 t587 t588 t589 t590 t591 t605 t608 _ A372.1).mono ?_); rintro e w391 ⟨v606, rfl, ho0, hb⟩; refine ⟨_, rfl, ?_⟩; have HO607 := Aside0.mk (Kd.R_lower (Kd.R_newB (Kd.R_newB (Kd.R_newB (Kd.R_newB (Kd.R_newB ho0 (g := gb540) (o := .cells #[.int .i64 t537, .int .i64 t538] 25 (0, 0)) (bk BK540)) (g := gb544) (o := .cells #[.int .i64 t541, .int .i64 t542] 25 (0, 0)) (bk BK544)) (g := gb596) (o := .cells #[.int .i64 t592, .int .i64 t593] 25 (0, 0)) (bk BK596)) (g := gb600) (o := .cells #[.int .i64 t597, .int .i64 t598] 25 (0, 0)) (bk BK600)) (g := gb604) (o := .cells #[.int .i64 t601, .int .i64 t602] 25 (0, 0)) (bk BK604)) (below_size (bq HB))); replace BK540 := zb BK540 hb; replace BK544 := zb BK544 hb; replace BK594 := zb BK594 hb; replace BK595 := zb BK595 hb; replace BK596 := zb BK596 hb; replace BK600 := zb BK600 hb; replace BK604 := zb BK604 hb; replace HB := zB HB hb; (try clear hb); (try clear hb2); (try clear hk); (try clear hi); (try clear ho0)))
          (try simp only [Act.put, List.setIfInBounds_toArray, List.set_cons_zero, List.set_cons_succ])
          go_cut [327] from 320 to 327 (fun v327 wc => ∃ (kq : Nat) (x327_372 : Bool), v327 = .bool x327_372 ∧ Aside0 (laws_FnHandsMeet.j7 kq t605 x327_372 t592 t593 t597 t598 = some true) ∧ Aside0 (kq ≤ kj304) ∧ Aside0 (Kd.R k25 25 wc w.heap.size (fun k_ => k_ ≠ gb540 ∧ k_ ≠ gb544 ∧ k_ ≠ gb596 ∧ k_ ≠ gb600 ∧ k_ ≠ gb604) v606 t605) ∧ Aside0 (wc.heap[gb540]? = some (.cells #[.int .i64 t537, .int .i64 t538] 25 (0, 0))) ∧ Aside0 (wc.heap[gb544]? = some (.cells #[.int .i64 t541, .int .i64 t542] 25 (0, 0))) ∧ Aside0 (wc.heap[gb596]? = some (.cells #[.int .i64 t592, .int .i64 t593] 25 (0, 0))) ∧ Aside0 (wc.heap[gb600]? = some (.cells #[.int .i64 t597, .int .i64 t598] 25 (0, 0))) ∧ Aside0 (wc.heap[gb604]? = some (.cells #[.int .i64 t601, .int .i64 t602] 25 (0, 0))) ∧ Aside0 (Below w.heap.size w wc))
          case first =>
            have H := HC373.1
            clear HC373
            by_cases c392 : t608 = true
            · subst c392
              rw [if_pos rfl] at H
              replace H := Option.bind_eq_some_iff.mp H
              obtain ⟨t609, A3930, H⟩ := H
              (try dsimp only at H)
              have A393 := Aside0.mk A3930
              clear A3930
              have H' := Aside0.mk H
              clear H
              have hnc396 := LT540_600.1
              have hnc397 := LT544_600.1
              have hnc398 := LT594_600.1
              have hnc399 := LT595_600.1
              have hnc400 := LT596_600.1
              have hnb401 := LT600_604.1
              obtain ⟨hcz402_0, hcz402_1, hfz402_0, hfz402_1⟩ := zc2 BK600
              obtain ⟨Ao403, co403, eo403⟩ := Kd.R_slice HO607.1
              subst eo403
              go_wp2_with (first | (go_at_call 20; (with_reducible refine (laws_kIn.calls kj304 _ _ t605 t597 t598 t609 _ ?side1 ?side2 A393.1).mono ?_); (case side1 => repeat (first | exact (Kd.R_reads' HO607.1).2.2 | (with_reducible refine Kd.C_alloc ?_ _) | (with_reducible refine Kd.C_drewN ?_ _) | (with_reducible refine Kd.C_drew ?_))); (case side2 => exact (Kd.R_reads' HO607.1).2.1); rintro e w404 ⟨rfl, hb⟩; replace HO607 := rB HO607 hb; replace BK540 := zb BK540 hb; replace BK544 := zb BK544 hb; replace BK594 := zb BK594 hb; replace BK595 := zb BK595 hb; replace BK596 := zb BK596 hb; replace BK600 := zb BK600 hb; replace BK604 := zb BK604 hb; replace HB := zB HB hb; clear hb))
              go_meet
              case rel => exact ⟨_, (!t609), ew, H', ⟨by have := HJ13.1; have := HJ139.1; have := HJ292.1; have := HJ304.1; first | omega | exact Nat.le_refl _⟩, ⟨by (with_reducible repeat (first | apply Kd.R_alloc | apply Kd.R_drewN | apply Kd.R_drew)); exact Kd.R_mono HO607.1 (fun _ hk => ⟨hk.1.1.1.1.2, ⟨hk.1.1.1.2, ⟨hk.1.1.2, ⟨hk.1.2, hk.2⟩⟩⟩⟩)⟩, ⟨bk BK540⟩, ⟨bk BK544⟩, ⟨bk BK596⟩, ⟨bk BK600⟩, ⟨bk BK604⟩, ⟨bq HB⟩⟩
            replace c392 := Bool.eq_false_iff.mpr c392
            subst c392
            have H1 := H
            rw [if_neg (show ¬ (false = true) by decide)] at H1
            clear H
            have H := H1
            exact (laws_FnHandsMeet.j7_no H).elim
          clear HC373
          try clear c1
          try clear c4
          try clear c301
          try clear c370
          try clear c371
          try clear hcz316_0
          try clear hcz316_1
          try clear hcz316_2
          try clear hcz322_0
          try clear hcz322_1
          try clear hcz322_2
          try clear hcz327_0
          try clear hcz327_1
          try clear hcz337_0
          try clear hcz337_1
          try clear hcz338_0
          try clear hcz338_1
          try clear hcz338_2
          try clear hcz339_0
          try clear hcz339_1
          try clear hcz339_2
          try clear hcz340_0
          try clear hcz340_1
          try clear hcz351_0
          try clear hcz351_1
          try clear hcz382_0
          try clear hcz382_1
          try clear hcz382_2
          try clear hcz390_0
          try clear hcz390_1
          try clear hcz390_2
          try clear hfz316_0
          try clear hfz316_1
          try clear hfz316_2
          try clear hfz322_0
          try clear hfz322_1
          try clear hfz322_2
          try clear hfz327_0
          try clear hfz327_1
          try clear hfz337_0
          try clear hfz337_1
          try clear hfz338_0
          try clear hfz338_1
          try clear hfz338_2
          try clear hfz339_0
          try clear hfz339_1
          try clear hfz339_2
          try clear hfz340_0
          try clear hfz340_1
          try clear hfz351_0
          try clear hfz351_1
          try clear hfz382_0
          try clear hfz382_1
          try clear hfz382_2
          try clear hfz390_0
          try clear hfz390_1
          try clear hfz390_2
          obtain ⟨kq, x327_372, rfl, HA, HJ372, HO_40, BK540, BK544, BK596, BK600, BK604, HB⟩ := hcut
          cases kq with
          | zero => exact absurd HA.1 (by simp [laws_FnHandsMeet.j7])
          | succ kj372 =>
            have H := HA.1
            clear HA
            simp only [laws_FnHandsMeet.j7] at H
            by_cases c405 : x327_372 = true
            · subst c405
              rw [if_pos rfl] at H
              exact absurd H (by simp)
            replace c405 := Bool.eq_false_iff.mpr c405
            subst c405
            rw [if_neg (show ¬ (false = true) by decide)] at H
            have H' := Aside0.mk H
            clear H
            have hnc408 := LT540_600.1
            have hnc409 := LT544_600.1
            have hnc412 := LT596_600.1
            have hnb413 := LT600_604.1
            obtain ⟨hcz414_0, hcz414_1, hfz414_0, hfz414_1⟩ := zc2 BK600
            have hnc417 := LT540_596.1
            have hnc418 := LT544_596.1
            have hnb421 := LT596_604.1
            obtain ⟨hcz422_0, hcz422_1, hfz422_0, hfz422_1⟩ := zc2 BK596
            obtain ⟨Ao423, co423, eo423⟩ := Kd.R_slice HO_40.1
            subst eo423
            go_wp2
            have H1 : laws_FnHandsMeet.l1 kj372 (decide ((wrap64 (t592 * t598)) < (wrap64 (t597 * t593)))) t605 (t605.length : Int) (0) t592 t593 t597 t598 = some true := H'.1
            clear H'
            generalize decide ((wrap64 (t592 * t598)) < (wrap64 (t597 * t593))) = x42 at H1 ⊢
            have H' := Aside0.mk H1
            clear H1
            go_loopg [341] kj372 (fun kq v341 w' => ∃ (x341_6 : Int), v341 = .int .i64 x341_6 ∧ Aside0 (laws_FnHandsMeet.l1 kq x42 t605 (t605.length : Int) x341_6 t592 t593 t597 t598 = some true) ∧ Aside0 (kq ≤ kj372) ∧ Aside0 (Kd.R k25 25 w' w.heap.size (fun k_ => k_ ≠ gb540 ∧ k_ ≠ gb544 ∧ k_ ≠ gb596 ∧ k_ ≠ gb600 ∧ k_ ≠ gb604) (.slice Ao423 t605.length co423) t605) ∧ Aside0 (w'.heap[gb540]? = some (.cells #[.int .i64 t537, .int .i64 t538] 25 (0, 0))) ∧ Aside0 (w'.heap[gb544]? = some (.cells #[.int .i64 t541, .int .i64 t542] 25 (0, 0))) ∧ Aside0 (w'.heap[gb596]? = some (.cells #[.int .i64 t592, .int .i64 t593] 25 (0, 0))) ∧ Aside0 (w'.heap[gb600]? = some (.cells #[.int .i64 t597, .int .i64 t598] 25 (0, 0))) ∧ Aside0 (w'.heap[gb604]? = some (.cells #[.int .i64 t601, .int .i64 t602] 25 (0, 0))) ∧ Aside0 (Below w.heap.size w w'))
            case atStart => exact ⟨(0), ew, H', ⟨Nat.le_refl _⟩, ⟨rq HO_40⟩, ⟨bk BK540⟩, ⟨bk BK544⟩, ⟨bk BK596⟩, ⟨bk BK600⟩, ⟨bk BK604⟩, ⟨bq HB⟩⟩
            case round =>
              clear H'
              try clear c1
              try clear c4
              try clear c301
              try clear c370
              try clear c371
              try clear c405
              try clear hcz316_0
              try clear hcz316_1
              try clear hcz316_2
              try clear hcz322_0
              try clear hcz322_1
              try clear hcz322_2
              try clear hcz327_0
              try clear hcz327_1
              try clear hcz337_0
              try clear hcz337_1
              try clear hcz338_0
              try clear hcz338_1
              try clear hcz338_2
              try clear hcz339_0
              try clear hcz339_1
              try clear hcz339_2
              try clear hcz340_0
              try clear hcz340_1
              try clear hcz351_0
              try clear hcz351_1
              try clear hcz382_0
              try clear hcz382_1
              try clear hcz382_2
              try clear hcz390_0
              try clear hcz390_1
              try clear hcz390_2
              try clear hcz414_0
              try clear hcz414_1
              try clear hcz422_0
              try clear hcz422_1
              try clear hfz316_0
              try clear hfz316_1
              try clear hfz316_2
              try clear hfz322_0
              try clear hfz322_1
              try clear hfz322_2
              try clear hfz327_0
              try clear hfz327_1
              try clear hfz337_0
              try clear hfz337_1
              try clear hfz338_0
              try clear hfz338_1
              try clear hfz338_2
              try clear hfz339_0
              try clear hfz339_1
              try clear hfz339_2
              try clear hfz340_0
              try clear hfz340_1
              try clear hfz351_0
              try clear hfz351_1
              try clear hfz382_0
              try clear hfz382_1
              try clear hfz382_2
              try clear hfz390_0
              try clear hfz390_1
              try clear hfz390_2
              try clear hfz414_0
              try clear hfz414_1
              try clear hfz422_0
              try clear hfz422_1
              obtain ⟨x341_6, rfl, HA, HK6, HO_339, BK540, BK544, BK596, BK600, BK604, HB⟩ := hrel
              cases gk with
              | zero => exact absurd HA.1 (by simp [laws_FnHandsMeet.l1])
              | succ k6 =>
                have H := HA.1
                clear HA
                simp only [laws_FnHandsMeet.l1] at H
                by_cases c424 : x341_6 < (t605.length : Int)
                · rw [if_pos c424] at H
                  have c424b0 : decide (x341_6 < (t605.length : Int)) = true := decide_eq_true c424
                  clear c424
                  by_cases c425 : 0 ≤ x341_6
                  · rw [if_pos c425] at H
                    have c425b0 : decide (0 ≤ x341_6) = true := decide_eq_true c425
                    clear c425
                    by_cases c426 : x341_6 < (t605.length : Int)
                    · rw [if_pos c426] at H
                      have c426b0 : decide (x341_6 < (t605.length : Int)) = true := decide_eq_true c426
                      clear c426
                      by_cases c427 : (wrap64 (((rd_T25 t605 x341_6).f0) * t593)) > (wrap64 (t592 * ((rd_T25 t605 x341_6).f1)))
                      · rw [if_pos c427] at H
                        have c427b0 : decide ((wrap64 (t592 * ((rd_T25 t605 x341_6).f1))) < (wrap64 (((rd_T25 t605 x341_6).f0) * t593))) = true := decide_eq_true c427
                        clear c427
                        by_cases c428 : x42 = true
                        · rw [if_pos c428] at H
                          subst c428
                          by_cases c429 : (wrap64 (((rd_T25 t605 x341_6).f0) * t598)) < (wrap64 (t597 * ((rd_T25 t605 x341_6).f1)))
                          · rw [if_pos c429] at H
                            have c429b0 : decide ((wrap64 (((rd_T25 t605 x341_6).f0) * t598)) < (wrap64 (t597 * ((rd_T25 t605 x341_6).f1)))) = true := decide_eq_true c429
                            clear c429
                            exact absurd H (by simp)
                          rw [if_neg c429] at H
                          have c429b0 : decide ((wrap64 (((rd_T25 t605 x341_6).f0) * t598)) < (wrap64 (t597 * ((rd_T25 t605 x341_6).f1)))) = false := decide_eq_false c429
                          clear c429
                          have H' := Aside0.mk H
                          clear H
                          have p610 : 0 ≤ (x341_6 : Int) := of_decide_eq_true (by first | (with_reducible assumption) | assumption)
                          have q610 : x341_6 < (t605.length : Int) := of_decide_eq_true (by first | (with_reducible assumption) | assumption)
                          obtain ⟨ad610, e610, hx610_0, hx610_1⟩ := at_T25 (Kd.R_reads' HO_339.1).2.2 x341_6 p610 q610
                          cases e610
                          replace p610 := eq_true p610
                          replace q610 := eq_true q610
                          go_wp2_with (first | ((with_reducible refine gate_dst (N := 44) rfl ?_); (try (refine gate_guard (by rfl) ?_; dsimp only)); refine be #[.int .i64 0, .int .i64 0] 25 ?_; intro gb611 hg w430 hbox hb; replace HO_339 := Aside0.mk (Kd.R_below (Kd.R_elderB (rq HO_339) gb611 (Nat.le_of_eq hg.symm)) hb); have BK611 := Aside0.mk hbox; have GW611 := zs HB hg; have GE611 := zs HB hg; have NB540_611 := zn BK540 hg; have LT540_611 := zo BK540 hg; have NB611_540 := zm BK540 hg; have NB544_611 := zn BK544 hg; have LT544_611 := zo BK544 hg; have NB611_544 := zm BK544 hg; have NB596_611 := zn BK596 hg; have LT596_611 := zo BK596 hg; have NB611_596 := zm BK596 hg; have NB600_611 := zn BK600 hg; have LT600_611 := zo BK600 hg; have NB611_600 := zm BK600 hg; have NB604_611 := zn BK604 hg; have LT604_611 := zo BK604 hg; have NB611_604 := zm BK604 hg; replace BK540 := zb BK540 hb; replace BK544 := zb BK544 hb; replace BK596 := zb BK596 hb; replace BK600 := zb BK600 hb; replace BK604 := zb BK604 hb; replace HB := zB HB hb; clear hb hbox hg; have hnc433 := LT540_611.1; have hnc434 := LT544_611.1; have hnc437 := LT596_611.1; have hnc438 := LT600_611.1; have hnc439 := LT604_611.1; obtain ⟨hcz440_0, hcz440_1, hfz440_0, hfz440_1⟩ := zc2 BK611; have hnc443 := LT540_596.1; have hnc444 := LT544_596.1; have hnb447 := LT596_600.1; have hnb448 := LT596_604.1; obtain ⟨hcz449_0, hcz449_1, hfz449_0, hfz449_1⟩ := zc2 BK596; have hnc452 := LT540_600.1; have hnc453 := LT544_600.1; have hnb456 := LT600_604.1; obtain ⟨hcz457_0, hcz457_1, hfz457_0, hfz457_1⟩ := zc2 BK600))
                          go_roundg k6
                          case measure => have := HJ13.1; have := HJ139.1; have := HJ292.1; have := HJ304.1; have := HJ372.1; have := HK6.1; omega
                          case rel => exact ⟨(wrap64 (x341_6 + 1)), ew, H', ⟨by have := HJ13.1; have := HJ139.1; have := HJ292.1; have := HJ304.1; have := HJ372.1; have := HK6.1; omega⟩, ⟨by (with_reducible repeat (first | apply Kd.R_alloc | apply Kd.R_drewN | apply Kd.R_drew)); exact Kd.R_mono (Kd.R_far (p := ⟨gb611, 1, none⟩) (Kd.R_far (p := ⟨gb611, 0, none⟩) (Kd.R_mono HO_339.1 (fun k_ hk => (⟨hk, hk.2⟩ : _ ∧ k_ ≠ gb611))) (fun _ hk => hk.2) (.int .i64 ((rd_T25 t605 x341_6).f0))) (fun _ hk => hk.2) (.int .i64 ((rd_T25 t605 x341_6).f1))) (fun _ hk => ⟨hk.1.1.1, ⟨hk.1.1.2.1, ⟨hk.1.1.2.2.1, ⟨hk.1.1.2.2.2.1, hk.1.1.2.2.2.2⟩⟩⟩⟩)⟩, ⟨bk BK540⟩, ⟨bk BK544⟩, ⟨bk BK596⟩, ⟨bk BK600⟩, ⟨bk BK604⟩, ⟨bq HB⟩⟩
                        rw [if_neg c428] at H
                        clear c428
                        exact absurd H (by simp)
                      rw [if_neg c427] at H
                      have c427b0 : decide ((wrap64 (t592 * ((rd_T25 t605 x341_6).f1))) < (wrap64 (((rd_T25 t605 x341_6).f0) * t593))) = false := decide_eq_false c427
                      clear c427
                      have H' := Aside0.mk H
                      clear H
                      have p610 : 0 ≤ (x341_6 : Int) := of_decide_eq_true (by first | (with_reducible assumption) | assumption)
                      have q610 : x341_6 < (t605.length : Int) := of_decide_eq_true (by first | (with_reducible assumption) | assumption)
                      obtain ⟨ad610, e610, hx610_0, hx610_1⟩ := at_T25 (Kd.R_reads' HO_339.1).2.2 x341_6 p610 q610
                      cases e610
                      replace p610 := eq_true p610
                      replace q610 := eq_true q610
                      go_wp2_with (first | ((with_reducible refine gate_dst (N := 44) rfl ?_); (try (refine gate_guard (by rfl) ?_; dsimp only)); refine be #[.int .i64 0, .int .i64 0] 25 ?_; intro gb611 hg w458 hbox hb; replace HO_339 := Aside0.mk (Kd.R_below (Kd.R_elderB (rq HO_339) gb611 (Nat.le_of_eq hg.symm)) hb); have BK611 := Aside0.mk hbox; have GW611 := zs HB hg; have GE611 := zs HB hg; have NB540_611 := zn BK540 hg; have LT540_611 := zo BK540 hg; have NB611_540 := zm BK540 hg; have NB544_611 := zn BK544 hg; have LT544_611 := zo BK544 hg; have NB611_544 := zm BK544 hg; have NB596_611 := zn BK596 hg; have LT596_611 := zo BK596 hg; have NB611_596 := zm BK596 hg; have NB600_611 := zn BK600 hg; have LT600_611 := zo BK600 hg; have NB611_600 := zm BK600 hg; have NB604_611 := zn BK604 hg; have LT604_611 := zo BK604 hg; have NB611_604 := zm BK604 hg; replace BK540 := zb BK540 hb; replace BK544 := zb BK544 hb; replace BK596 := zb BK596 hb; replace BK600 := zb BK600 hb; replace BK604 := zb BK604 hb; replace HB := zB HB hb; clear hb hbox hg; have hnc461 := LT540_611.1; have hnc462 := LT544_611.1; have hnc465 := LT596_611.1; have hnc466 := LT600_611.1; have hnc467 := LT604_611.1; obtain ⟨hcz468_0, hcz468_1, hfz468_0, hfz468_1⟩ := zc2 BK611; have hnc471 := LT540_596.1; have hnc472 := LT544_596.1; have hnb475 := LT596_600.1; have hnb476 := LT596_604.1; obtain ⟨hcz477_0, hcz477_1, hfz477_0, hfz477_1⟩ := zc2 BK596))
                      go_roundg k6
                      case measure => have := HJ13.1; have := HJ139.1; have := HJ292.1; have := HJ304.1; have := HJ372.1; have := HK6.1; omega
                      case rel => exact ⟨(wrap64 (x341_6 + 1)), ew, H', ⟨by have := HJ13.1; have := HJ139.1; have := HJ292.1; have := HJ304.1; have := HJ372.1; have := HK6.1; omega⟩, ⟨by (with_reducible repeat (first | apply Kd.R_alloc | apply Kd.R_drewN | apply Kd.R_drew)); exact Kd.R_mono (Kd.R_far (p := ⟨gb611, 1, none⟩) (Kd.R_far (p := ⟨gb611, 0, none⟩) (Kd.R_mono HO_339.1 (fun k_ hk => (⟨hk, hk.2⟩ : _ ∧ k_ ≠ gb611))) (fun _ hk => hk.2) (.int .i64 ((rd_T25 t605 x341_6).f0))) (fun _ hk => hk.2) (.int .i64 ((rd_T25 t605 x341_6).f1))) (fun _ hk => ⟨hk.1.1.1, ⟨hk.1.1.2.1, ⟨hk.1.1.2.2.1, ⟨hk.1.1.2.2.2.1, hk.1.1.2.2.2.2⟩⟩⟩⟩)⟩, ⟨bk BK540⟩, ⟨bk BK544⟩, ⟨bk BK596⟩, ⟨bk BK600⟩, ⟨bk BK604⟩, ⟨bq HB⟩⟩
                    rw [if_neg c426] at H
                    exact absurd H (by simp)
                  rw [if_neg c425] at H
                  exact absurd H (by simp)
                rw [if_neg c424] at H
                have c424b0 : decide (x341_6 < (t605.length : Int)) = false := decide_eq_false c424
                clear c424
                clear H
                go_wp2
                go_ret
                exact ⟨er, bq HB⟩
        replace c371 := Bool.eq_false_iff.mpr c371
        subst c371
        have H1 : (some true) = some true := rfl
        clear H
        have H := H1
        clear H1
        clear H
        go_wp2
        go_ret
        exact ⟨er, bq HB⟩

end Go.Proofs.Ytoneipoioiokcaa.PFnHandsMeet
