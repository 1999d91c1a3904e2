-- Written by wip/tools/myprint.py (a patched run of the kit's printer) out of the translation.
import Derived.Test.YthmeagbfoccnlaaDoorProg
import Derived.Below
import Derived.Deep.Draws
import Derived.Deep.AppendLies
import Derived.Maps.AppendAt
import Derived.OwnWalk
import Derived.Laws.BytesArg
import Derived.Laws.MakeOwn
import Derived.Laws.OwnMore
import Derived.Deep.OwnRows
import Derived.Tactics
import Derived.Lib.ConvBytes
import Derived.Laws.Slices
import Derived.WalkKit
import Derived.KernelRfl
import Derived.RowKit3
import Derived.Deep.LoopGhost
import Derived.Deep.QuietTactic
import Derived.BigQuiet
import Derived.WideLaws
import Derived.Deep.DeepCutAuto
import Derived.Deep.CutBlock
import Derived.Deep.RegionHeld3
import Derived.Laws.Rows
import Derived.Lib.AppendStr
import Derived.ArgAppend
import Derived.Laws.IdiomCopy
import Derived.OrdersHeld
import Derived.Laws.BitsLemmas
import Derived.RowKit
import Derived.WalkMore
import Derived.Test.YthmeagbfoccnlaaDoorWWords
import Derived.Test.YthmeagbfoccnlaaDoorWLast
import Derived.Test.YthmeagbfoccnlaaDoorWTab
import Derived.Test.YthmeagbfoccnlaaDoorWFour
import Derived.Test.YthmeagbfoccnlaaDoorWQPut
import Derived.Test.YthmeagbfoccnlaaDoorWApart
import Derived.Test.YthmeagbfoccnlaaDoorWArr
import Derived.Test.YthmeagbfoccnlaaDoorWZeros
import Derived.Test.YthmeagbfoccnlaaDoorWFoot
import Derived.Test.YthmeagbfoccnlaaDoorWKept
import Derived.Test.YthmeagbfoccnlaaDoorWShare
import Derived.Test.YthmeagbfoccnlaaDoorWN
import Derived.Test.YthmeagbfoccnlaaDoorWFootNe
import Derived.Test.YthmeagbfoccnlaaDoorWAt
import Derived.Test.YthmeagbfoccnlaaDoorWEqStruct
import Derived.Test.YthmeagbfoccnlaaDoorWRepsOne
import Derived.Test.YthmeagbfoccnlaaDoorWInv
import Derived.Test.YthmeagbfoccnlaaDoorWInvWords
import Derived.Test.YthmeagbfoccnlaaDoorWGuard
import Derived.Test.YthmeagbfoccnlaaDoorWNEv
import Derived.Test.YthmeagbfoccnlaaDoorWMore
namespace Go.Proofs.YthmeagbfoccnlaaDoor.FA
open Go.RowKit Go.Proofs.YthmeagbfoccnlaaDoorW.PrintWords Go.Proofs.YthmeagbfoccnlaaDoorW.PrintLast Go.Proofs.YthmeagbfoccnlaaDoorW.PrintMore
attribute [local go_sem] max2_int min2_int max_two min_two max_three min_three max_four min_four   -- for this text's walks alone
set_option linter.unusedVariables false
set_option linter.unusedSimpArgs false



def errW : Option Int → Value
  | none => .nilIface
  | some c => .iface 0 (.int .i64 c)
theorem errW_none : errW none = .nilIface := rfl
theorem errW_some (c : Int) : errW (some c) = .iface 0 (.int .i64 c) := rfl

theorem info5 : (Tryd.prog.info? 5).map (fun i => (i.zero, i.size, i.bytes)) = some (some (.int .u8 0), 1, 1) := by kernel_rfl
-- the values' own types

end Go.Proofs.YthmeagbfoccnlaaDoor.FA
