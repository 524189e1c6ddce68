/- A part of the walk of FnStrokesCountedOfAll: which Lean function each Go function comes to, and that the machine's call does so. Written by a program of this repo (wip/gen/xprint.py). -/
import Derived.Test.YtjalknehgfomlabPFnStrokesCountedOfAllx0
import Derived.Test.YtjalknehgfomlabPFnStrokesCountedOfAllx1
import Derived.Test.YtjalknehgfomlabPFnStrokesCountedOfAllx2
import Derived.Test.YtjalknehgfomlabPFnStrokesCountedOfAllx3
import Derived.Test.YtjalknehgfomlabPFnStrokesCountedOfAllx5
import Derived.Test.YtjalknehgfomlabPFnStrokesCountedOfAllx6
import Derived.Test.YtjalknehgfomlabPFnStrokesCountedOfAllx7
import Derived.Test.YtjalknehgfomlabPFnStrokesCountedOfAllx8
namespace Go.Proofs.Ytjalknehgfomlab.PFnStrokesCountedOfAll
open Go.RowKit Go.Proofs.YtjalknehgfomlabW.PrintWords Go.Proofs.YtjalknehgfomlabW.PrintLast Go.Proofs.YtjalknehgfomlabW.PrintMore
attribute [local go_sem] max2_int min2_int max_two min_two max_three min_three max_four min_four   -- for this text's walks alone
set_option linter.unusedVariables false
set_option linter.unusedSimpArgs false

/-- THE ONE STATEMENT of laws_FnStrokesCountedOfAll: its walk. -/
def laws_FnStrokesCountedOfAll.Pure : Prop := ∀ (a0 : Int) (a1 : Int) (a2 : Int) (a3 : Int) (a4 : Int) (a5 : Int) (a6 : Int) (a7 : Int) (a8 : Int) (a9 : Int) (w : World) (w0 : (Lit.int .i64 a0).wf = true) (w1 : (Lit.int .i64 a1).wf = true) (w2 : (Lit.int .i64 a2).wf = true) (w3 : (Lit.int .i64 a3).wf = true) (w4 : (Lit.int .i64 a4).wf = true) (w5 : (Lit.int .i64 a5).wf = true) (w6 : (Lit.int .i64 a6).wf = true) (w7 : (Lit.int .i64 a7).wf = true) (w8 : (Lit.int .i64 a8).wf = true) (w9 : (Lit.int .i64 a9).wf = true), Calls Try.prog 3 #[.int .i64 a0, .int .i64 a1, .int .i64 a2, .int .i64 a3, .int .i64 a4, .int .i64 a5, .int .i64 a6, .int .i64 a7, .int .i64 a8, .int .i64 a9] w fun e w' => e = .returned (.bool true) ∧ Below w.heap.size w w'
theorem laws_FnStrokesCountedOfAll.walk (P : laws_FnStrokesCountedOfAll.Pure) (a0 : Int) (a1 : Int) (a2 : Int) (a3 : Int) (a4 : Int) (a5 : Int) (a6 : Int) (a7 : Int) (a8 : Int) (a9 : Int) (w : World) (w0 : (Lit.int .i64 a0).wf = true) (w1 : (Lit.int .i64 a1).wf = true) (w2 : (Lit.int .i64 a2).wf = true) (w3 : (Lit.int .i64 a3).wf = true) (w4 : (Lit.int .i64 a4).wf = true) (w5 : (Lit.int .i64 a5).wf = true) (w6 : (Lit.int .i64 a6).wf = true) (w7 : (Lit.int .i64 a7).wf = true) (w8 : (Lit.int .i64 a8).wf = true) (w9 : (Lit.int .i64 a9).wf = true) :
    Calls Try.prog 3 #[.int .i64 a0, .int .i64 a1, .int .i64 a2, .int .i64 a3, .int .i64 a4, .int .i64 a5, .int .i64 a6, .int .i64 a7, .int .i64 a8, .int .i64 a9] w fun e w' => e = .returned (.bool true) ∧ Below w.heap.size w w' := P a0 a1 a2 a3 a4 a5 a6 a7 a8 a9 w w0 w1 w2 w3 w4 w5 w6 w7 w8 w9

end Go.Proofs.Ytjalknehgfomlab.PFnStrokesCountedOfAll
