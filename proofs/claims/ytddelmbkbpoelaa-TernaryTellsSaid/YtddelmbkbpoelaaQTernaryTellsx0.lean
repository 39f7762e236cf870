-- Made by wip/myprint.sh (a patched print): a text of this session's own.
import Derived.Test.YtddelmbkbpoelaaProg
import Derived.Below
import Derived.Deep.Draws
import Derived.Deep.AppendLies
import Derived.Maps.AppendAt
import Derived.OwnWalk
import Derived.Laws.BytesArg
import Derived.Laws.MakeOwn
import Derived.Laws.OwnMore
import Derived.Deep.OwnRows
import Derived.Tactics
import Derived.Lib.ConvBytes
import Derived.Laws.Slices
import Derived.WalkKit
import Derived.KernelRfl
import Derived.RowKit3
import Derived.Deep.LoopGhost
import Derived.Deep.QuietTactic
import Derived.BigQuiet
import Derived.WideLaws
import Derived.Deep.DeepCutAuto
import Derived.Deep.CutBlock
import Derived.Deep.RegionHeld3
import Derived.Laws.Rows
import Derived.Lib.AppendStr
import Derived.ArgAppend
import Derived.Laws.IdiomCopy
import Derived.OrdersHeld
import Derived.Laws.BitsLemmas
import Derived.RowKit
import Derived.Laws.EntriesVeiled
import Derived.LoopN
import Derived.Test.YtddelmbkbpoelaaWWords
import Derived.Test.YtddelmbkbpoelaaWLast
import Derived.Test.YtddelmbkbpoelaaWTab
import Derived.Test.YtddelmbkbpoelaaWFour
import Derived.Test.YtddelmbkbpoelaaWQPut
import Derived.Test.YtddelmbkbpoelaaWApart
import Derived.Test.YtddelmbkbpoelaaWArr
import Derived.Test.YtddelmbkbpoelaaWZeros
import Derived.Test.YtddelmbkbpoelaaWFoot
import Derived.Test.YtddelmbkbpoelaaWKept
import Derived.Test.YtddelmbkbpoelaaWShare
import Derived.Test.YtddelmbkbpoelaaWN
import Derived.Test.YtddelmbkbpoelaaWFootNe
import Derived.Test.YtddelmbkbpoelaaWAt
import Derived.Test.YtddelmbkbpoelaaWEqStruct
import Derived.Test.YtddelmbkbpoelaaWRepsOne
import Derived.Test.YtddelmbkbpoelaaWInv
import Derived.Test.YtddelmbkbpoelaaWInvWords
import Derived.Test.YtddelmbkbpoelaaWGuard
import Derived.Test.YtddelmbkbpoelaaWNEv
import Derived.Test.YtddelmbkbpoelaaWMore
namespace Go.Proofs.Ytddelmbkbpoelaa.QTernaryTells
open Go.RowKit Go.Proofs.YtddelmbkbpoelaaW.PrintWords Go.Proofs.YtddelmbkbpoelaaW.PrintLast Go.Proofs.YtddelmbkbpoelaaW.PrintMore
attribute [local go_sem] max2_int min2_int max_two min_two max_three min_three max_four min_four   -- for this text's walks alone
set_option linter.unusedVariables false
set_option linter.unusedSimpArgs false



def errW : Option Int → Value
  | none => .nilIface
  | some c => .iface 0 (.int .i64 c)
theorem errW_none : errW none = .nilIface := rfl
theorem errW_some (c : Int) : errW (some c) = .iface 0 (.int .i64 c) := rfl

theorem info5 : (Try.prog.info? 5).map (fun i => (i.zero, i.size, i.bytes)) = some (some (.int .u8 0), 1, 1) := by kernel_rfl
-- the values' own types

end Go.Proofs.Ytddelmbkbpoelaa.QTernaryTells
