/- YtifakhddmlalcabQNumTextsx0: the functions that the law NumTexts uses, each as a Lean function with the proof that the call tells the same. Turned out of the print of print.sh by qprint.py (own sections: bits_Len64, perm_Show). Conditions: none beyond each theorem's own. -/
import Derived.Test.YtifakhddmlalcabProg
import Derived.Below
import Derived.Deep.Draws
import Derived.Deep.AppendLies
import Derived.Maps.AppendAt
import Derived.OwnWalk
import Derived.Laws.BytesArg
import Derived.Laws.MakeOwn
import Derived.Laws.OwnMore
import Derived.Deep.OwnRows
import Derived.Tactics
import Derived.Lib.ConvBytes
import Derived.Laws.Slices
import Derived.WalkKit
import Derived.KernelRfl
import Derived.RowKit3
import Derived.Deep.LoopGhost
import Derived.Deep.QuietTactic
import Derived.BigQuiet
import Derived.WideLaws
import Derived.Deep.DeepCutAuto
import Derived.Deep.CutBlock
import Derived.Deep.RegionHeld3
import Derived.Laws.Rows
import Derived.Lib.AppendStr
import Derived.ArgAppend
import Derived.Laws.IdiomCopy
import Derived.OrdersHeld
import Derived.Laws.BitsLemmas
import Derived.RowKit
import Derived.Test.YtifakhddmlalcabWWords
import Derived.Test.YtifakhddmlalcabWLast
import Derived.Test.YtifakhddmlalcabWTab
import Derived.Test.YtifakhddmlalcabWFour
import Derived.Test.YtifakhddmlalcabWQPut
import Derived.Test.YtifakhddmlalcabWApart
import Derived.Test.YtifakhddmlalcabWArr
import Derived.Test.YtifakhddmlalcabWZeros
import Derived.Test.YtifakhddmlalcabWFoot
import Derived.Test.YtifakhddmlalcabWKept
import Derived.Test.YtifakhddmlalcabWShare
import Derived.Test.YtifakhddmlalcabWN
import Derived.Test.YtifakhddmlalcabWFootNe
import Derived.Test.YtifakhddmlalcabWAt
import Derived.Test.YtifakhddmlalcabWEqStruct
import Derived.Test.YtifakhddmlalcabWRepsOne
import Derived.Test.YtifakhddmlalcabWInv
import Derived.Test.YtifakhddmlalcabWInvWords
import Derived.Test.YtifakhddmlalcabWGuard
import Derived.Test.YtifakhddmlalcabWNEv
import Derived.Test.YtifakhddmlalcabWMore
namespace Go.Proofs.Ytifakhddmlalcab.QNumTexts
open Go.RowKit Go.Proofs.YtifakhddmlalcabW.PrintWords Go.Proofs.YtifakhddmlalcabW.PrintLast Go.Proofs.YtifakhddmlalcabW.PrintMore
attribute [local go_sem] max2_int min2_int max_two min_two max_three min_three max_four min_four   -- for this text's walks alone
set_option linter.unusedVariables false
set_option linter.unusedSimpArgs false



def errW : Option Int → Value
  | none => .nilIface
  | some c => .iface 0 (.int .i64 c)
theorem errW_none : errW none = .nilIface := rfl
theorem errW_some (c : Int) : errW (some c) = .iface 0 (.int .i64 c) := rfl

theorem info5 : (Try.prog.info? 5).map (fun i => (i.zero, i.size, i.bytes)) = some (some (.int .u8 0), 1, 1) := by kernel_rfl
-- the values' own types

end Go.Proofs.Ytifakhddmlalcab.QNumTexts
