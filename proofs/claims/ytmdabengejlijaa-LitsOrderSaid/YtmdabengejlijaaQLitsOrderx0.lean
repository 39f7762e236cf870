-- Made by wip/myprint.sh (a patched print): a text of this session's own.
import Derived.Test.YtmdabengejlijaaProg
import Derived.Below
import Derived.Deep.Draws
import Derived.Deep.AppendLies
import Derived.Maps.AppendAt
import Derived.OwnWalk
import Derived.Laws.BytesArg
import Derived.Laws.MakeOwn
import Derived.Laws.OwnMore
import Derived.Deep.OwnRows
import Derived.Tactics
import Derived.Lib.ConvBytes
import Derived.Laws.Slices
import Derived.WalkKit
import Derived.KernelRfl
import Derived.RowKit3
import Derived.Deep.LoopGhost
import Derived.Deep.QuietTactic
import Derived.BigQuiet
import Derived.WideLaws
import Derived.Deep.DeepCutAuto
import Derived.Deep.CutBlock
import Derived.Deep.RegionHeld3
import Derived.Laws.Rows
import Derived.Lib.AppendStr
import Derived.ArgAppend
import Derived.Laws.IdiomCopy
import Derived.OrdersHeld
import Derived.Laws.BitsLemmas
import Derived.RowKit
import Derived.Laws.EntriesVeiled
import Derived.LoopN
import Derived.Test.YtmdabengejlijaaWWords
import Derived.Test.YtmdabengejlijaaWLast
import Derived.Test.YtmdabengejlijaaWTab
import Derived.Test.YtmdabengejlijaaWFour
import Derived.Test.YtmdabengejlijaaWQPut
import Derived.Test.YtmdabengejlijaaWApart
import Derived.Test.YtmdabengejlijaaWArr
import Derived.Test.YtmdabengejlijaaWZeros
import Derived.Test.YtmdabengejlijaaWFoot
import Derived.Test.YtmdabengejlijaaWKept
import Derived.Test.YtmdabengejlijaaWShare
import Derived.Test.YtmdabengejlijaaWN
import Derived.Test.YtmdabengejlijaaWFootNe
import Derived.Test.YtmdabengejlijaaWAt
import Derived.Test.YtmdabengejlijaaWEqStruct
import Derived.Test.YtmdabengejlijaaWRepsOne
import Derived.Test.YtmdabengejlijaaWInv
import Derived.Test.YtmdabengejlijaaWInvWords
import Derived.Test.YtmdabengejlijaaWGuard
import Derived.Test.YtmdabengejlijaaWNEv
import Derived.Test.YtmdabengejlijaaWMore
namespace Go.Proofs.Ytmdabengejlijaa.QLitsOrder
open Go.RowKit Go.Proofs.YtmdabengejlijaaW.PrintWords Go.Proofs.YtmdabengejlijaaW.PrintLast Go.Proofs.YtmdabengejlijaaW.PrintMore
attribute [local go_sem] max2_int min2_int max_two min_two max_three min_three max_four min_four   -- for this text's walks alone
set_option linter.unusedVariables false
set_option linter.unusedSimpArgs false



def errW : Option Int → Value
  | none => .nilIface
  | some c => .iface 0 (.int .i64 c)
theorem errW_none : errW none = .nilIface := rfl
theorem errW_some (c : Int) : errW (some c) = .iface 0 (.int .i64 c) := rfl

theorem info3 : (Try.prog.info? 3).map (fun i => (i.zero, i.size, i.bytes)) = some (some (.int .i64 0), 1, 8) := by kernel_rfl
-- the values' own types

end Go.Proofs.Ytmdabengejlijaa.QLitsOrder
