/- A part of the walk of FnExactStrokeNumber: which Lean function each Go function comes to, and that the machine's call does so. Written by a program of this repo (wip/gen/xprint.py). -/
import Derived.Test.YtohglnbfpppclaaProg
import Derived.Below
import Derived.Deep.Draws
import Derived.Deep.AppendLies
import Derived.Maps.AppendAt
import Derived.OwnWalk
import Derived.Laws.BytesArg
import Derived.Laws.MakeOwn
import Derived.Laws.OwnMore
import Derived.Deep.OwnRows
import Derived.Tactics
import Derived.Lib.ConvBytes
import Derived.Laws.Slices
import Derived.WalkKit
import Derived.KernelRfl
import Derived.RowKit3
import Derived.Deep.LoopGhost
import Derived.Deep.QuietTactic
import Derived.BigQuiet
import Derived.WideLaws
import Derived.Deep.DeepCutAuto
import Derived.Deep.CutBlock
import Derived.Deep.RegionHeld3
import Derived.Laws.Rows
import Derived.Lib.AppendStr
import Derived.ArgAppend
import Derived.Laws.IdiomCopy
import Derived.OrdersHeld
import Derived.Laws.BitsLemmas
import Derived.RowKit
import Derived.Test.YtohglnbfpppclaaWWords
import Derived.Test.YtohglnbfpppclaaWLast
import Derived.Test.YtohglnbfpppclaaWTab
import Derived.Test.YtohglnbfpppclaaWFour
import Derived.Test.YtohglnbfpppclaaWQPut
import Derived.Test.YtohglnbfpppclaaWApart
import Derived.Test.YtohglnbfpppclaaWArr
import Derived.Test.YtohglnbfpppclaaWZeros
import Derived.Test.YtohglnbfpppclaaWFoot
import Derived.Test.YtohglnbfpppclaaWKept
import Derived.Test.YtohglnbfpppclaaWShare
import Derived.Test.YtohglnbfpppclaaWN
import Derived.Test.YtohglnbfpppclaaWFootNe
import Derived.Test.YtohglnbfpppclaaWAt
import Derived.Test.YtohglnbfpppclaaWEqStruct
import Derived.Test.YtohglnbfpppclaaWRepsOne
import Derived.Test.YtohglnbfpppclaaWInv
import Derived.Test.YtohglnbfpppclaaWInvWords
import Derived.Test.YtohglnbfpppclaaWGuard
import Derived.Test.YtohglnbfpppclaaWNEv
import Derived.Test.YtohglnbfpppclaaWMore
namespace Go.Proofs.Ytohglnbfpppclaa.PFnExactStrokeNumber
open Go.RowKit Go.Proofs.YtohglnbfpppclaaW.PrintWords Go.Proofs.YtohglnbfpppclaaW.PrintLast Go.Proofs.YtohglnbfpppclaaW.PrintMore
attribute [local go_sem] max2_int min2_int max_two min_two max_three min_three max_four min_four   -- for this text's walks alone
set_option linter.unusedVariables false
set_option linter.unusedSimpArgs false



def errW : Option Int → Value
  | none => .nilIface
  | some c => .iface 0 (.int .i64 c)
theorem errW_none : errW none = .nilIface := rfl
theorem errW_some (c : Int) : errW (some c) = .iface 0 (.int .i64 c) := rfl

-- the values' own types

end Go.Proofs.Ytohglnbfpppclaa.PFnExactStrokeNumber
