/- A part of the walk of FnClocksAgreeOfAll: which Lean function each Go function comes to, and that the machine's call does so. Written by a program of this repo (wip/gen/xprint.py). -/
import Derived.Test.YtdhifobbaniogabGreatDoorPFnClocksAgreeOfAllx0
import Derived.Test.YtdhifobbaniogabGreatDoorPFnClocksAgreeOfAllx1
import Derived.Test.YtdhifobbaniogabGreatDoorPFnClocksAgreeOfAllx2
import Derived.Test.YtdhifobbaniogabGreatDoorPFnClocksAgreeOfAllx3
import Derived.Test.YtdhifobbaniogabGreatDoorPFnClocksAgreeOfAllx4
import Derived.Test.YtdhifobbaniogabGreatDoorPFnClocksAgreeOfAllx5
import Derived.Test.YtdhifobbaniogabGreatDoorPFnClocksAgreeOfAllx6
import Derived.Test.YtdhifobbaniogabGreatDoorPFnClocksAgreeOfAllx12
import Derived.Test.YtdhifobbaniogabGreatDoorPFnClocksAgreeOfAllx13
import Derived.Test.YtdhifobbaniogabGreatDoorPFnClocksAgreeOfAllx14
import Derived.Test.YtdhifobbaniogabGreatDoorPFnClocksAgreeOfAllx16
import Derived.Test.YtdhifobbaniogabGreatDoorPFnClocksAgreeOfAllx17
import Derived.Test.YtdhifobbaniogabGreatDoorPFnClocksAgreeOfAllx18
import Derived.Test.YtdhifobbaniogabGreatDoorPFnClocksAgreeOfAllx20
import Derived.Test.YtdhifobbaniogabGreatDoorPFnClocksAgreeOfAllx21
import Derived.Test.YtdhifobbaniogabGreatDoorPFnClocksAgreeOfAllx22
import Derived.Test.YtdhifobbaniogabGreatDoorPFnClocksAgreeOfAllx23
import Derived.Test.YtdhifobbaniogabGreatDoorPFnClocksAgreeOfAllx25
import Derived.Test.YtdhifobbaniogabGreatDoorPFnClocksAgreeOfAllx26
import Derived.Test.YtdhifobbaniogabGreatDoorPFnClocksAgreeOfAllx28
import Derived.Test.YtdhifobbaniogabGreatDoorPFnClocksAgreeOfAllx29
namespace Go.Proofs.YtdhifobbaniogabGreatDoor.PFnClocksAgreeOfAll
open Go.RowKit Go.Proofs.YtdhifobbaniogabGreatDoorW.PrintWords Go.Proofs.YtdhifobbaniogabGreatDoorW.PrintLast Go.Proofs.YtdhifobbaniogabGreatDoorW.PrintMore
attribute [local go_sem] max2_int min2_int max_two min_two max_three min_three max_four min_four   -- for this text's walks alone
set_option linter.unusedVariables false
set_option linter.unusedSimpArgs false

attribute [local go_sem high] eqA23 eqA25 eqA26
/-- THE ONE STATEMENT of laws_FnClocksAgreeOfAll: its walk. -/
def laws_FnClocksAgreeOfAll.Pure : Prop := ∀ (a0_0 : Int) (a0_1 : Int) (a0_2 : Int) (a0_3 : Int) (a1_0 : Int) (a1_1 : Int) (a1_2 : Int) (a1_3 : Int) (a2_0 : Int) (a2_1 : Int) (a3_0 : Int) (a3_1 : Int) (a4_0 : Int) (a4_1 : Int) (a5_0 : Int) (a5_1 : Int) (a6_0 : Int) (a6_1 : Int) (a7 : Int) (a8 : Int) (a9_0 : Int) (a9_1 : Int) (a10 : ByteArray) (w : World) (wa0_0 : (Lit.int .i64 a0_0).wf = true) (wa0_1 : (Lit.int .i64 a0_1).wf = true) (wa0_2 : (Lit.int .i64 a0_2).wf = true) (wa0_3 : (Lit.int .i64 a0_3).wf = true) (wa1_0 : (Lit.int .i64 a1_0).wf = true) (wa1_1 : (Lit.int .i64 a1_1).wf = true) (wa1_2 : (Lit.int .i64 a1_2).wf = true) (wa1_3 : (Lit.int .i64 a1_3).wf = true) (wa2_0 : (Lit.int .i64 a2_0).wf = true) (wa2_1 : (Lit.int .i64 a2_1).wf = true) (wa3_0 : (Lit.int .i64 a3_0).wf = true) (wa3_1 : (Lit.int .i64 a3_1).wf = true) (wa4_0 : (Lit.int .i64 a4_0).wf = true) (wa4_1 : (Lit.int .i64 a4_1).wf = true) (wa5_0 : (Lit.int .i64 a5_0).wf = true) (wa5_1 : (Lit.int .i64 a5_1).wf = true) (wa6_0 : (Lit.int .i64 a6_0).wf = true) (wa6_1 : (Lit.int .i64 a6_1).wf = true) (wa7 : (Lit.int .i64 a7).wf = true) (wa8 : (Lit.int .i64 a8).wf = true) (wa9_0 : (Lit.int .i64 a9_0).wf = true) (wa9_1 : (Lit.int .i64 a9_1).wf = true) (wa10 : a10.size ≤ 140737488351232) (ht : HasTab w) (he : HasErr w), Calls Tryz.prog 3 #[.agg #[.int .i64 a0_0, .int .i64 a0_1, .int .i64 a0_2, .int .i64 a0_3], .agg #[.int .i64 a1_0, .int .i64 a1_1, .int .i64 a1_2, .int .i64 a1_3], .agg #[.int .i64 a2_0, .int .i64 a2_1], .agg #[.int .i64 a3_0, .int .i64 a3_1], .agg #[.int .i64 a4_0, .int .i64 a4_1], .agg #[.int .i64 a5_0, .int .i64 a5_1], .agg #[.int .i64 a6_0, .int .i64 a6_1], .int .i64 a7, .int .i64 a8, .agg #[.int .i64 a9_0, .int .i64 a9_1], .string a10] w fun e w' => e = .returned (.bool true) ∧ Below w.heap.size w w'
theorem laws_FnClocksAgreeOfAll.walk (P : laws_FnClocksAgreeOfAll.Pure) (a0_0 : Int) (a0_1 : Int) (a0_2 : Int) (a0_3 : Int) (a1_0 : Int) (a1_1 : Int) (a1_2 : Int) (a1_3 : Int) (a2_0 : Int) (a2_1 : Int) (a3_0 : Int) (a3_1 : Int) (a4_0 : Int) (a4_1 : Int) (a5_0 : Int) (a5_1 : Int) (a6_0 : Int) (a6_1 : Int) (a7 : Int) (a8 : Int) (a9_0 : Int) (a9_1 : Int) (a10 : ByteArray) (w : World) (wa0_0 : (Lit.int .i64 a0_0).wf = true) (wa0_1 : (Lit.int .i64 a0_1).wf = true) (wa0_2 : (Lit.int .i64 a0_2).wf = true) (wa0_3 : (Lit.int .i64 a0_3).wf = true) (wa1_0 : (Lit.int .i64 a1_0).wf = true) (wa1_1 : (Lit.int .i64 a1_1).wf = true) (wa1_2 : (Lit.int .i64 a1_2).wf = true) (wa1_3 : (Lit.int .i64 a1_3).wf = true) (wa2_0 : (Lit.int .i64 a2_0).wf = true) (wa2_1 : (Lit.int .i64 a2_1).wf = true) (wa3_0 : (Lit.int .i64 a3_0).wf = true) (wa3_1 : (Lit.int .i64 a3_1).wf = true) (wa4_0 : (Lit.int .i64 a4_0).wf = true) (wa4_1 : (Lit.int .i64 a4_1).wf = true) (wa5_0 : (Lit.int .i64 a5_0).wf = true) (wa5_1 : (Lit.int .i64 a5_1).wf = true) (wa6_0 : (Lit.int .i64 a6_0).wf = true) (wa6_1 : (Lit.int .i64 a6_1).wf = true) (wa7 : (Lit.int .i64 a7).wf = true) (wa8 : (Lit.int .i64 a8).wf = true) (wa9_0 : (Lit.int .i64 a9_0).wf = true) (wa9_1 : (Lit.int .i64 a9_1).wf = true) (wa10 : a10.size ≤ 140737488351232) (ht : HasTab w) (he : HasErr w) :
    Calls Tryz.prog 3 #[.agg #[.int .i64 a0_0, .int .i64 a0_1, .int .i64 a0_2, .int .i64 a0_3], .agg #[.int .i64 a1_0, .int .i64 a1_1, .int .i64 a1_2, .int .i64 a1_3], .agg #[.int .i64 a2_0, .int .i64 a2_1], .agg #[.int .i64 a3_0, .int .i64 a3_1], .agg #[.int .i64 a4_0, .int .i64 a4_1], .agg #[.int .i64 a5_0, .int .i64 a5_1], .agg #[.int .i64 a6_0, .int .i64 a6_1], .int .i64 a7, .int .i64 a8, .agg #[.int .i64 a9_0, .int .i64 a9_1], .string a10] w fun e w' => e = .returned (.bool true) ∧ Below w.heap.size w w' := P a0_0 a0_1 a0_2 a0_3 a1_0 a1_1 a1_2 a1_3 a2_0 a2_1 a3_0 a3_1 a4_0 a4_1 a5_0 a5_1 a6_0 a6_1 a7 a8 a9_0 a9_1 a10 w wa0_0 wa0_1 wa0_2 wa0_3 wa1_0 wa1_1 wa1_2 wa1_3 wa2_0 wa2_1 wa3_0 wa3_1 wa4_0 wa4_1 wa5_0 wa5_1 wa6_0 wa6_1 wa7 wa8 wa9_0 wa9_1 wa10 ht he

end Go.Proofs.YtdhifobbaniogabGreatDoor.PFnClocksAgreeOfAll
