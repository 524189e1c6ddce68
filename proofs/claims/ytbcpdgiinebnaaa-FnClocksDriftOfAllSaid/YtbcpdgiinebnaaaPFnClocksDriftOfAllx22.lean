/- A part of the walk of FnClocksDriftOfAll: which Lean function each Go function comes to, and that the machine's call does so. Written by a program of this repo (wip/gen/xprint.py). -/
import Derived.Test.YtbcpdgiinebnaaaPFnClocksDriftOfAllx0
import Derived.Test.YtbcpdgiinebnaaaPFnClocksDriftOfAllx1
import Derived.Test.YtbcpdgiinebnaaaPFnClocksDriftOfAllx2
import Derived.Test.YtbcpdgiinebnaaaPFnClocksDriftOfAllx3
import Derived.Test.YtbcpdgiinebnaaaPFnClocksDriftOfAllx4
import Derived.Test.YtbcpdgiinebnaaaPFnClocksDriftOfAllx6
import Derived.Test.YtbcpdgiinebnaaaPFnClocksDriftOfAllx8
import Derived.Test.YtbcpdgiinebnaaaPFnClocksDriftOfAllx9
import Derived.Test.YtbcpdgiinebnaaaPFnClocksDriftOfAllx10
import Derived.Test.YtbcpdgiinebnaaaPFnClocksDriftOfAllx11
import Derived.Test.YtbcpdgiinebnaaaPFnClocksDriftOfAllx12
import Derived.Test.YtbcpdgiinebnaaaPFnClocksDriftOfAllx13
import Derived.Test.YtbcpdgiinebnaaaPFnClocksDriftOfAllx16
import Derived.Test.YtbcpdgiinebnaaaPFnClocksDriftOfAllx18
import Derived.Test.YtbcpdgiinebnaaaPFnClocksDriftOfAllx19
import Derived.Test.YtbcpdgiinebnaaaPFnClocksDriftOfAllx20
import Derived.Test.YtbcpdgiinebnaaaPFnClocksDriftOfAllx21
namespace Go.Proofs.Ytbcpdgiinebnaaa.PFnClocksDriftOfAll
open Go.RowKit Go.Proofs.YtbcpdgiinebnaaaW.PrintWords Go.Proofs.YtbcpdgiinebnaaaW.PrintLast Go.Proofs.YtbcpdgiinebnaaaW.PrintMore
attribute [local go_sem] max2_int min2_int max_two min_two max_three min_three max_four min_four   -- for this text's walks alone
set_option linter.unusedVariables false
set_option linter.unusedSimpArgs false

attribute [local go_sem high] eqA35 eqA43 eqA44
/-- THE ONE STATEMENT of laws_FnClocksDriftOfAll: its walk. -/
def laws_FnClocksDriftOfAll.Pure : Prop := ∀ (a0_0 : Int) (a0_1 : Int) (a0_2 : Int) (a0_3 : Int) (a1_0 : Int) (a1_1 : Int) (a2_0 : Int) (a2_1 : Int) (a2_2 : Int) (a2_3 : Int) (a3_0 : Int) (a3_1 : Int) (a3_2 : Int) (a3_3 : Int) (a4_0 : Int) (a4_1 : Int) (w : World) (wa0_0 : (Lit.int .i64 a0_0).wf = true) (wa0_1 : (Lit.int .i64 a0_1).wf = true) (wa0_2 : (Lit.int .i64 a0_2).wf = true) (wa0_3 : (Lit.int .i64 a0_3).wf = true) (wa1_0 : (Lit.int .i64 a1_0).wf = true) (wa1_1 : (Lit.int .i64 a1_1).wf = true) (wa2_0 : (Lit.int .i64 a2_0).wf = true) (wa2_1 : (Lit.int .i64 a2_1).wf = true) (wa2_2 : (Lit.int .i64 a2_2).wf = true) (wa2_3 : (Lit.int .i64 a2_3).wf = true) (wa3_0 : (Lit.int .i64 a3_0).wf = true) (wa3_1 : (Lit.int .i64 a3_1).wf = true) (wa3_2 : (Lit.int .i64 a3_2).wf = true) (wa3_3 : (Lit.int .i64 a3_3).wf = true) (wa4_0 : (Lit.int .i64 a4_0).wf = true) (wa4_1 : (Lit.int .i64 a4_1).wf = true), Calls Try.prog 6 #[.agg #[.int .i64 a0_0, .int .i64 a0_1, .int .i64 a0_2, .int .i64 a0_3], .agg #[.int .i64 a1_0, .int .i64 a1_1], .agg #[.int .i64 a2_0, .int .i64 a2_1, .int .i64 a2_2, .int .i64 a2_3], .agg #[.int .i64 a3_0, .int .i64 a3_1, .int .i64 a3_2, .int .i64 a3_3], .agg #[.int .i64 a4_0, .int .i64 a4_1]] w fun e w' => e = .returned (.bool true) ∧ Below w.heap.size w w'
theorem laws_FnClocksDriftOfAll.walk (P : laws_FnClocksDriftOfAll.Pure) (a0_0 : Int) (a0_1 : Int) (a0_2 : Int) (a0_3 : Int) (a1_0 : Int) (a1_1 : Int) (a2_0 : Int) (a2_1 : Int) (a2_2 : Int) (a2_3 : Int) (a3_0 : Int) (a3_1 : Int) (a3_2 : Int) (a3_3 : Int) (a4_0 : Int) (a4_1 : Int) (w : World) (wa0_0 : (Lit.int .i64 a0_0).wf = true) (wa0_1 : (Lit.int .i64 a0_1).wf = true) (wa0_2 : (Lit.int .i64 a0_2).wf = true) (wa0_3 : (Lit.int .i64 a0_3).wf = true) (wa1_0 : (Lit.int .i64 a1_0).wf = true) (wa1_1 : (Lit.int .i64 a1_1).wf = true) (wa2_0 : (Lit.int .i64 a2_0).wf = true) (wa2_1 : (Lit.int .i64 a2_1).wf = true) (wa2_2 : (Lit.int .i64 a2_2).wf = true) (wa2_3 : (Lit.int .i64 a2_3).wf = true) (wa3_0 : (Lit.int .i64 a3_0).wf = true) (wa3_1 : (Lit.int .i64 a3_1).wf = true) (wa3_2 : (Lit.int .i64 a3_2).wf = true) (wa3_3 : (Lit.int .i64 a3_3).wf = true) (wa4_0 : (Lit.int .i64 a4_0).wf = true) (wa4_1 : (Lit.int .i64 a4_1).wf = true) :
    Calls Try.prog 6 #[.agg #[.int .i64 a0_0, .int .i64 a0_1, .int .i64 a0_2, .int .i64 a0_3], .agg #[.int .i64 a1_0, .int .i64 a1_1], .agg #[.int .i64 a2_0, .int .i64 a2_1, .int .i64 a2_2, .int .i64 a2_3], .agg #[.int .i64 a3_0, .int .i64 a3_1, .int .i64 a3_2, .int .i64 a3_3], .agg #[.int .i64 a4_0, .int .i64 a4_1]] w fun e w' => e = .returned (.bool true) ∧ Below w.heap.size w w' := P a0_0 a0_1 a0_2 a0_3 a1_0 a1_1 a2_0 a2_1 a2_2 a2_3 a3_0 a3_1 a3_2 a3_3 a4_0 a4_1 w wa0_0 wa0_1 wa0_2 wa0_3 wa1_0 wa1_1 wa2_0 wa2_1 wa2_2 wa2_3 wa3_0 wa3_1 wa3_2 wa3_3 wa4_0 wa4_1

end Go.Proofs.Ytbcpdgiinebnaaa.PFnClocksDriftOfAll
