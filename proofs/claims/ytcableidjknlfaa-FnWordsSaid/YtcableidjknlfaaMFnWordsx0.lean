-- Written by a program of this session (wip/mprint.py) out of the translation's own print; Lean checks it.
import Derived.Test.YtcableidjknlfaaProg
import Derived.Below
import Derived.Deep.Draws
import Derived.Deep.AppendLies
import Derived.Maps.AppendAt
import Derived.OwnWalk
import Derived.Laws.BytesArg
import Derived.Laws.MakeOwn
import Derived.Laws.OwnMore
import Derived.Deep.OwnRows
import Derived.Tactics
import Derived.Lib.ConvBytes
import Derived.Laws.Slices
import Derived.WalkKit
import Derived.KernelRfl
import Derived.RowKit3
import Derived.Deep.LoopGhost
import Derived.Deep.QuietTactic
import Derived.BigQuiet
import Derived.WideLaws
import Derived.Deep.DeepCutAuto
import Derived.Deep.CutBlock
import Derived.Deep.RegionHeld3
import Derived.Laws.Rows
import Derived.Lib.AppendStr
import Derived.ArgAppend
import Derived.Laws.IdiomCopy
import Derived.OrdersHeld
import Derived.Laws.BitsLemmas
import Derived.RowKit
import Derived.Test.YtcableidjknlfaaLib0
import Derived.Test.YtcableidjknlfaaWWords
import Derived.Test.YtcableidjknlfaaWLast
import Derived.Test.YtcableidjknlfaaWTab
import Derived.Test.YtcableidjknlfaaWFour
import Derived.Test.YtcableidjknlfaaWQPut
import Derived.Test.YtcableidjknlfaaWApart
import Derived.Test.YtcableidjknlfaaWArr
import Derived.Test.YtcableidjknlfaaWZeros
import Derived.Test.YtcableidjknlfaaWFoot
import Derived.Test.YtcableidjknlfaaWKept
import Derived.Test.YtcableidjknlfaaWShare
import Derived.Test.YtcableidjknlfaaWN
import Derived.Test.YtcableidjknlfaaWFootNe
import Derived.Test.YtcableidjknlfaaWAt
import Derived.Test.YtcableidjknlfaaWEqStruct
import Derived.Test.YtcableidjknlfaaWRepsOne
import Derived.Test.YtcableidjknlfaaWInv
import Derived.Test.YtcableidjknlfaaWInvWords
import Derived.Test.YtcableidjknlfaaWGuard
import Derived.Test.YtcableidjknlfaaWNEv
import Derived.Test.YtcableidjknlfaaWMore
namespace Go.Proofs.Ytcableidjknlfaa.MFnWords
open Go.RowKit Go.Proofs.YtcableidjknlfaaW.PrintWords Go.Proofs.YtcableidjknlfaaW.PrintLast Go.Proofs.YtcableidjknlfaaW.PrintMore
attribute [local go_sem] max2_int min2_int max_two min_two max_three min_three max_four min_four   -- for this text's walks alone
set_option linter.unusedVariables false
set_option linter.unusedSimpArgs false



def errW : Option Int → Value
  | none => .nilIface
  | some c => .iface 0 (.int .i64 c)
theorem errW_none : errW none = .nilIface := rfl
theorem errW_some (c : Int) : errW (some c) = .iface 0 (.int .i64 c) := rfl

theorem info3 : (Try.prog.info? 3).map (fun i => (i.zero, i.size, i.bytes)) = some (some (.int .i64 0), 1, 8) := by kernel_rfl
theorem info5 : (Try.prog.info? 5).map (fun i => (i.zero, i.size, i.bytes)) = some (some (.int .u8 0), 1, 1) := by kernel_rfl
-- the values' own types

end Go.Proofs.Ytcableidjknlfaa.MFnWords
