-- Written by a program of this session (wip/mprint.py) out of the translation's own print; Lean checks it.
import Derived.Test.YteconfmfgehoeaaProg
import Derived.Below
import Derived.Deep.Draws
import Derived.Deep.AppendLies
import Derived.Maps.AppendAt
import Derived.OwnWalk
import Derived.Laws.BytesArg
import Derived.Laws.MakeOwn
import Derived.Laws.OwnMore
import Derived.Deep.OwnRows
import Derived.Tactics
import Derived.Lib.ConvBytes
import Derived.Laws.Slices
import Derived.WalkKit
import Derived.KernelRfl
import Derived.RowKit3
import Derived.Deep.LoopGhost
import Derived.Deep.QuietTactic
import Derived.BigQuiet
import Derived.WideLaws
import Derived.Deep.DeepCutAuto
import Derived.Deep.CutBlock
import Derived.Deep.RegionHeld3
import Derived.Laws.Rows
import Derived.Lib.AppendStr
import Derived.ArgAppend
import Derived.Laws.IdiomCopy
import Derived.OrdersHeld
import Derived.Laws.BitsLemmas
import Derived.RowKit
import Derived.Test.YteconfmfgehoeaaWWords
import Derived.Test.YteconfmfgehoeaaWLast
import Derived.Test.YteconfmfgehoeaaWTab
import Derived.Test.YteconfmfgehoeaaWFour
import Derived.Test.YteconfmfgehoeaaWQPut
import Derived.Test.YteconfmfgehoeaaWApart
import Derived.Test.YteconfmfgehoeaaWArr
import Derived.Test.YteconfmfgehoeaaWZeros
import Derived.Test.YteconfmfgehoeaaWFoot
import Derived.Test.YteconfmfgehoeaaWKept
import Derived.Test.YteconfmfgehoeaaWShare
import Derived.Test.YteconfmfgehoeaaWN
import Derived.Test.YteconfmfgehoeaaWFootNe
import Derived.Test.YteconfmfgehoeaaWAt
import Derived.Test.YteconfmfgehoeaaWEqStruct
import Derived.Test.YteconfmfgehoeaaWRepsOne
import Derived.Test.YteconfmfgehoeaaWInv
import Derived.Test.YteconfmfgehoeaaWInvWords
import Derived.Test.YteconfmfgehoeaaWGuard
import Derived.Test.YteconfmfgehoeaaWNEv
import Derived.Test.YteconfmfgehoeaaWMore
namespace Go.Proofs.Yteconfmfgehoeaa.MFnExactConstants
open Go.RowKit Go.Proofs.YteconfmfgehoeaaW.PrintWords Go.Proofs.YteconfmfgehoeaaW.PrintLast Go.Proofs.YteconfmfgehoeaaW.PrintMore
attribute [local go_sem] max2_int min2_int max_two min_two max_three min_three max_four min_four   -- for this text's walks alone
set_option linter.unusedVariables false
set_option linter.unusedSimpArgs false



def errW : Option Int → Value
  | none => .nilIface
  | some c => .iface 0 (.int .i64 c)
theorem errW_none : errW none = .nilIface := rfl
theorem errW_some (c : Int) : errW (some c) = .iface 0 (.int .i64 c) := rfl

-- the values' own types

end Go.Proofs.Yteconfmfgehoeaa.MFnExactConstants
