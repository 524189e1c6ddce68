/- A part of the walk of FnStrokesWaitedOfAll: which Lean function each Go function comes to, and that the machine's call does so. Written by a program of this repo (wip/gen/xprint.py). -/
import Derived.Test.YtjjbockboifcbaaProg
import Derived.Below
import Derived.Deep.Draws
import Derived.Deep.AppendLies
import Derived.Maps.AppendAt
import Derived.OwnWalk
import Derived.Laws.BytesArg
import Derived.Laws.MakeOwn
import Derived.Laws.OwnMore
import Derived.Deep.OwnRows
import Derived.Tactics
import Derived.Lib.ConvBytes
import Derived.Laws.Slices
import Derived.WalkKit
import Derived.KernelRfl
import Derived.RowKit3
import Derived.Deep.LoopGhost
import Derived.Deep.QuietTactic
import Derived.BigQuiet
import Derived.WideLaws
import Derived.Deep.DeepCutAuto
import Derived.Deep.CutBlock
import Derived.Deep.RegionHeld3
import Derived.Laws.Rows
import Derived.Lib.AppendStr
import Derived.ArgAppend
import Derived.Laws.IdiomCopy
import Derived.OrdersHeld
import Derived.Laws.BitsLemmas
import Derived.RowKit
import Derived.Test.YtjjbockboifcbaaWWords
import Derived.Test.YtjjbockboifcbaaWLast
import Derived.Test.YtjjbockboifcbaaWTab
import Derived.Test.YtjjbockboifcbaaWFour
import Derived.Test.YtjjbockboifcbaaWQPut
import Derived.Test.YtjjbockboifcbaaWApart
import Derived.Test.YtjjbockboifcbaaWArr
import Derived.Test.YtjjbockboifcbaaWZeros
import Derived.Test.YtjjbockboifcbaaWFoot
import Derived.Test.YtjjbockboifcbaaWKept
import Derived.Test.YtjjbockboifcbaaWShare
import Derived.Test.YtjjbockboifcbaaWN
import Derived.Test.YtjjbockboifcbaaWFootNe
import Derived.Test.YtjjbockboifcbaaWAt
import Derived.Test.YtjjbockboifcbaaWEqStruct
import Derived.Test.YtjjbockboifcbaaWRepsOne
import Derived.Test.YtjjbockboifcbaaWInv
import Derived.Test.YtjjbockboifcbaaWInvWords
import Derived.Test.YtjjbockboifcbaaWGuard
import Derived.Test.YtjjbockboifcbaaWNEv
import Derived.Test.YtjjbockboifcbaaWMore
namespace Go.Proofs.Ytjjbockboifcbaa.PFnStrokesWaitedOfAll
open Go.RowKit Go.Proofs.YtjjbockboifcbaaW.PrintWords Go.Proofs.YtjjbockboifcbaaW.PrintLast Go.Proofs.YtjjbockboifcbaaW.PrintMore
attribute [local go_sem] max2_int min2_int max_two min_two max_three min_three max_four min_four   -- for this text's walks alone
set_option linter.unusedVariables false
set_option linter.unusedSimpArgs false



def errW : Option Int → Value
  | none => .nilIface
  | some c => .iface 0 (.int .i64 c)
theorem errW_none : errW none = .nilIface := rfl
theorem errW_some (c : Int) : errW (some c) = .iface 0 (.int .i64 c) := rfl

theorem info3 : (Try.prog.info? 3).map (fun i => (i.zero, i.size, i.bytes)) = some (some (.int .i64 0), 1, 8) := by kernel_rfl
-- the values' own types

end Go.Proofs.Ytjjbockboifcbaa.PFnStrokesWaitedOfAll
