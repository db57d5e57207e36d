-- Written by a program of this session (wip/tools/hp.py) out of the translation.
import Derived.Test.YtlfhgednlljkoaaProg
import Derived.Below
import Derived.Deep.Draws
import Derived.Deep.AppendLies
import Derived.Maps.AppendAt
import Derived.OwnWalk
import Derived.Laws.BytesArg
import Derived.Laws.MakeOwn
import Derived.Laws.OwnMore
import Derived.Deep.OwnRows
import Derived.Tactics
import Derived.Lib.ConvBytes
import Derived.Laws.Slices
import Derived.WalkKit
import Derived.KernelRfl
import Derived.RowKit3
import Derived.Deep.LoopGhost
import Derived.Deep.QuietTactic
import Derived.BigQuiet
import Derived.WideLaws
import Derived.Deep.DeepCutAuto
import Derived.Deep.CutBlock
import Derived.Deep.RegionHeld3
import Derived.Laws.Rows
import Derived.Lib.AppendStr
import Derived.ArgAppend
import Derived.Laws.IdiomCopy
import Derived.OrdersHeld
import Derived.Laws.BitsLemmas
import Derived.RowKit
import Derived.Test.YtlfhgednlljkoaaCDigs
import Derived.Test.YtlfhgednlljkoaaCWord
import Derived.Test.YtlfhgednlljkoaaWWords
import Derived.Test.YtlfhgednlljkoaaWLast
import Derived.Test.YtlfhgednlljkoaaWTab
import Derived.Test.YtlfhgednlljkoaaWFour
import Derived.Test.YtlfhgednlljkoaaWQPut
import Derived.Test.YtlfhgednlljkoaaWApart
import Derived.Test.YtlfhgednlljkoaaWArr
import Derived.Test.YtlfhgednlljkoaaWZeros
import Derived.Test.YtlfhgednlljkoaaWFoot
import Derived.Test.YtlfhgednlljkoaaWKept
import Derived.Test.YtlfhgednlljkoaaWShare
import Derived.Test.YtlfhgednlljkoaaWN
import Derived.Test.YtlfhgednlljkoaaWFootNe
import Derived.Test.YtlfhgednlljkoaaWAt
import Derived.Test.YtlfhgednlljkoaaWEqStruct
import Derived.Test.YtlfhgednlljkoaaWRepsOne
import Derived.Test.YtlfhgednlljkoaaWInv
import Derived.Test.YtlfhgednlljkoaaWInvWords
import Derived.Test.YtlfhgednlljkoaaWGuard
import Derived.Test.YtlfhgednlljkoaaWNEv
import Derived.Test.YtlfhgednlljkoaaWMore
namespace Go.Proofs.Ytlfhgednlljkoaa.P
open Go.RowKit Go.Proofs.YtlfhgednlljkoaaW.PrintWords Go.Proofs.YtlfhgednlljkoaaW.PrintLast Go.Proofs.YtlfhgednlljkoaaW.PrintMore
attribute [local go_sem] max2_int min2_int max_two min_two max_three min_three max_four min_four   -- for this text's walks alone
set_option linter.unusedVariables false
set_option linter.unusedSimpArgs false



def errW : Option Int → Value
  | none => .nilIface
  | some c => .iface 0 (.int .i64 c)
theorem errW_none : errW none = .nilIface := rfl
theorem errW_some (c : Int) : errW (some c) = .iface 0 (.int .i64 c) := rfl

theorem info5 : (Try.prog.info? 5).map (fun i => (i.zero, i.size, i.bytes)) = some (some (.int .u8 0), 1, 1) := by kernel_rfl
theorem info21 : (Try.prog.info? 21).map (fun i => (i.zero, i.size, i.bytes)) = some (some (.int .i32 0), 1, 4) := by kernel_rfl
-- the values' own types

end Go.Proofs.Ytlfhgednlljkoaa.P
