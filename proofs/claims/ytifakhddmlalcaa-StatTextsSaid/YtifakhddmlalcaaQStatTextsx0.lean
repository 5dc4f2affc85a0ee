/- YtifakhddmlalcaaQStatTextsx0: the functions that the law StatTexts uses, each as a Lean function with the proof that the call tells the same. Turned out of the print of print.sh by qprint.py (own sections: bits_Len64, perm_Show). Conditions: none beyond each theorem's own. -/
import Derived.Test.YtifakhddmlalcaaProg
import Derived.Below
import Derived.Deep.Draws
import Derived.Deep.AppendLies
import Derived.Maps.AppendAt
import Derived.OwnWalk
import Derived.Laws.BytesArg
import Derived.Laws.MakeOwn
import Derived.Laws.OwnMore
import Derived.Deep.OwnRows
import Derived.Tactics
import Derived.Lib.ConvBytes
import Derived.Laws.Slices
import Derived.WalkKit
import Derived.KernelRfl
import Derived.RowKit3
import Derived.Deep.LoopGhost
import Derived.Deep.QuietTactic
import Derived.BigQuiet
import Derived.WideLaws
import Derived.Deep.DeepCutAuto
import Derived.Deep.CutBlock
import Derived.Deep.RegionHeld3
import Derived.Laws.Rows
import Derived.Lib.AppendStr
import Derived.ArgAppend
import Derived.Laws.IdiomCopy
import Derived.OrdersHeld
import Derived.Laws.BitsLemmas
import Derived.RowKit
import Derived.Test.YtifakhddmlalcaaWWords
import Derived.Test.YtifakhddmlalcaaWLast
import Derived.Test.YtifakhddmlalcaaWTab
import Derived.Test.YtifakhddmlalcaaWFour
import Derived.Test.YtifakhddmlalcaaWQPut
import Derived.Test.YtifakhddmlalcaaWApart
import Derived.Test.YtifakhddmlalcaaWArr
import Derived.Test.YtifakhddmlalcaaWZeros
import Derived.Test.YtifakhddmlalcaaWFoot
import Derived.Test.YtifakhddmlalcaaWKept
import Derived.Test.YtifakhddmlalcaaWShare
import Derived.Test.YtifakhddmlalcaaWN
import Derived.Test.YtifakhddmlalcaaWFootNe
import Derived.Test.YtifakhddmlalcaaWAt
import Derived.Test.YtifakhddmlalcaaWEqStruct
import Derived.Test.YtifakhddmlalcaaWRepsOne
import Derived.Test.YtifakhddmlalcaaWInv
import Derived.Test.YtifakhddmlalcaaWInvWords
import Derived.Test.YtifakhddmlalcaaWGuard
import Derived.Test.YtifakhddmlalcaaWNEv
import Derived.Test.YtifakhddmlalcaaWMore
namespace Go.Proofs.Ytifakhddmlalcaa.QStatTexts
open Go.RowKit Go.Proofs.YtifakhddmlalcaaW.PrintWords Go.Proofs.YtifakhddmlalcaaW.PrintLast Go.Proofs.YtifakhddmlalcaaW.PrintMore
attribute [local go_sem] max2_int min2_int max_two min_two max_three min_three max_four min_four   -- for this text's walks alone
set_option linter.unusedVariables false
set_option linter.unusedSimpArgs false



def errW : Option Int → Value
  | none => .nilIface
  | some c => .iface 0 (.int .i64 c)
theorem errW_none : errW none = .nilIface := rfl
theorem errW_some (c : Int) : errW (some c) = .iface 0 (.int .i64 c) := rfl

theorem info3 : (Try.prog.info? 3).map (fun i => (i.zero, i.size, i.bytes)) = some (some (.int .i64 0), 1, 8) := by kernel_rfl
theorem info5 : (Try.prog.info? 5).map (fun i => (i.zero, i.size, i.bytes)) = some (some (.int .u8 0), 1, 1) := by kernel_rfl
theorem info9 : (Try.prog.info? 9).map (fun i => (i.zero, i.size, i.bytes)) = some (some (.string ⟨#[]⟩), 1, 16) := by kernel_rfl
-- the values' own types

end Go.Proofs.Ytifakhddmlalcaa.QStatTexts
