/- A part of the walk of FnExactSeenOf: which Lean function each Go function comes to, and that the machine's call does so. Written by a program of this repo (wip/gen/xprint.py). -/
import Derived.Test.YtnangmpclikldaaProg
import Derived.Below
import Derived.Deep.Draws
import Derived.Deep.AppendLies
import Derived.Maps.AppendAt
import Derived.OwnWalk
import Derived.Laws.BytesArg
import Derived.Laws.MakeOwn
import Derived.Laws.OwnMore
import Derived.Deep.OwnRows
import Derived.Tactics
import Derived.Lib.ConvBytes
import Derived.Laws.Slices
import Derived.WalkKit
import Derived.KernelRfl
import Derived.RowKit3
import Derived.Deep.LoopGhost
import Derived.Deep.QuietTactic
import Derived.BigQuiet
import Derived.WideLaws
import Derived.Deep.DeepCutAuto
import Derived.Deep.CutBlock
import Derived.Deep.RegionHeld3
import Derived.Laws.Rows
import Derived.Lib.AppendStr
import Derived.ArgAppend
import Derived.Laws.IdiomCopy
import Derived.OrdersHeld
import Derived.Laws.BitsLemmas
import Derived.RowKit
import Derived.Test.YtnangmpclikldaaWWords
import Derived.Test.YtnangmpclikldaaWLast
import Derived.Test.YtnangmpclikldaaWTab
import Derived.Test.YtnangmpclikldaaWFour
import Derived.Test.YtnangmpclikldaaWQPut
import Derived.Test.YtnangmpclikldaaWApart
import Derived.Test.YtnangmpclikldaaWArr
import Derived.Test.YtnangmpclikldaaWZeros
import Derived.Test.YtnangmpclikldaaWFoot
import Derived.Test.YtnangmpclikldaaWKept
import Derived.Test.YtnangmpclikldaaWShare
import Derived.Test.YtnangmpclikldaaWN
import Derived.Test.YtnangmpclikldaaWFootNe
import Derived.Test.YtnangmpclikldaaWAt
import Derived.Test.YtnangmpclikldaaWEqStruct
import Derived.Test.YtnangmpclikldaaWRepsOne
import Derived.Test.YtnangmpclikldaaWInv
import Derived.Test.YtnangmpclikldaaWInvWords
import Derived.Test.YtnangmpclikldaaWGuard
import Derived.Test.YtnangmpclikldaaWNEv
import Derived.Test.YtnangmpclikldaaWMore
namespace Go.Proofs.Ytnangmpclikldaa.PFnExactSeenOf
open Go.RowKit Go.Proofs.YtnangmpclikldaaW.PrintWords Go.Proofs.YtnangmpclikldaaW.PrintLast Go.Proofs.YtnangmpclikldaaW.PrintMore
attribute [local go_sem] max2_int min2_int max_two min_two max_three min_three max_four min_four   -- for this text's walks alone
set_option linter.unusedVariables false
set_option linter.unusedSimpArgs false



def errW : Option Int → Value
  | none => .nilIface
  | some c => .iface 0 (.int .i64 c)
theorem errW_none : errW none = .nilIface := rfl
theorem errW_some (c : Int) : errW (some c) = .iface 0 (.int .i64 c) := rfl

-- the values' own types

end Go.Proofs.Ytnangmpclikldaa.PFnExactSeenOf
