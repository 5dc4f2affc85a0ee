/-
  No cell of these rows narrows 'for every input' (looked for: loops, veiled, ifaces, maps, wideKeys, modest, calm, conditions, laid).
  DERIVED. THE GIVEN ROWS OF THIS SEAT. 12 by the template 'for every input the law returns true; each argument reads behind the call as it read before'; 0 by the template 'total and deterministic' (their statements: YtifakhddmlalcaaTotals.lean).
  GIVEN WITH THE SEED: the statements are not yours to turn. If you find one false, say at which input.
  Laid BY PROGRAM, IN A SANDBOX (cutbox-rows.mjs): the forced cells as the released guide's own fill.sh prints them over the translation ee480af11a0a2cfd… (all of the seat's roots in one cut). By AI agents, Wed Nov 11 2026. No macro, syntax, notation, axiom, sorry.
-/
import Derived.Test.YtifakhddmlalcaaChecked
import GoSem.Claim
import GoSem.ClaimJoined
import GoSem.ClaimMapViews
import Derived.JoinedTies
import Derived.KernelRfl
namespace Go.Proofs.Ytifakhddmlalcaa
/- THE CELL 'sum', in the pinned program and in every row, IS THE sha256 OF THE DUMP (.gsa) THAT YtifakhddmlalcaaProg.lean LOADS. Nothing in Lean hashes anything: it is a label: what it is worth is what the hold of that sum in a sandbox is worth. -/
noncomputable def Try.pinned : Pinned := { name := "ytifakhddmlalcaa", sum := "ee480af11a0a2cfd291be94c00a5f735545ccbae58eff53e2afe739e6de3acfa", checked := Try.checked }
namespace Rows
def none {H : Type} : Left H := { results := [], args := [] }

/-- 'cubbyholelaw09.PermTexts': WHATEVER THE INPUT: true; the input reads as it did. -/
def permTextsSpec : ChangeSpec := { name := "permTexts", fn := fun _ => fun
  | [d1, d2] => { results := [.lit (.bool true)], args := [d1, d2] }
  | _ => none }
def permTextsRow : OpenClaim := { program := "ytifakhddmlalcaa", sum := "ee480af11a0a2cfd291be94c00a5f735545ccbae58eff53e2afe739e6de3acfa", func := "cubbyhole/cubbyholelaw09.PermTexts", spec := "permTexts", apart := false }
def PermTextsSaid : Prop := permTextsRow.holds Try.pinned (OpenSpec.ofChange permTextsSpec)

/-- ITS FALSE NEIGHBOUR: 'it returns false'. Refute it at one input. -/
def permTextsWrong : ChangeSpec := { name := "permTexts", fn := fun _ => fun
  | [d1, d2] => { results := [.lit (.bool false)], args := [d1, d2] }
  | _ => none }
def PermTextsWrongFalsely : Prop := permTextsRow.holds Try.pinned (OpenSpec.ofChange permTextsWrong)

/-- 'cubbyholelaw39.StatTexts': WHATEVER THE INPUT: true; the input reads as it did. -/
def statTextsSpec : ChangeSpec := { name := "statTexts", fn := fun _ => fun
  | [d] => { results := [.lit (.bool true)], args := [d] }
  | _ => none }
def statTextsRow : OpenClaim := { program := "ytifakhddmlalcaa", sum := "ee480af11a0a2cfd291be94c00a5f735545ccbae58eff53e2afe739e6de3acfa", func := "cubbyhole/cubbyholelaw39.StatTexts", spec := "statTexts", recurses := true, apart := false }
def StatTextsSaid : Prop := statTextsRow.holds Try.pinned (OpenSpec.ofChange statTextsSpec)

/-- ITS FALSE NEIGHBOUR: 'it returns false'. Refute it at one input. -/
def statTextsWrong : ChangeSpec := { name := "statTexts", fn := fun _ => fun
  | [d] => { results := [.lit (.bool false)], args := [d] }
  | _ => none }
def StatTextsWrongFalsely : Prop := statTextsRow.holds Try.pinned (OpenSpec.ofChange statTextsWrong)

/-- 'cubbyholelaw29.GuardNeed': WHATEVER THE INPUT: true; the input reads as it did. -/
def guardNeedSpec : ChangeSpec := { name := "guardNeed", fn := fun _ => fun
  | [d1, d2] => { results := [.lit (.bool true)], args := [d1, d2] }
  | _ => none }
def guardNeedRow : OpenClaim := { program := "ytifakhddmlalcaa", sum := "ee480af11a0a2cfd291be94c00a5f735545ccbae58eff53e2afe739e6de3acfa", func := "cubbyhole/cubbyholelaw29.GuardNeed", spec := "guardNeed", apart := false }
def GuardNeedSaid : Prop := guardNeedRow.holds Try.pinned (OpenSpec.ofChange guardNeedSpec)

/-- ITS FALSE NEIGHBOUR: 'it returns false'. Refute it at one input. -/
def guardNeedWrong : ChangeSpec := { name := "guardNeed", fn := fun _ => fun
  | [d1, d2] => { results := [.lit (.bool false)], args := [d1, d2] }
  | _ => none }
def GuardNeedWrongFalsely : Prop := guardNeedRow.holds Try.pinned (OpenSpec.ofChange guardNeedWrong)

/-- 'cubbyholelaw29.GuardLay': WHATEVER THE INPUT: true; the input reads as it did. -/
def guardLaySpec : ChangeSpec := { name := "guardLay", fn := fun _ => fun
  | [d1, d2, d3] => { results := [.lit (.bool true)], args := [d1, d2, d3] }
  | _ => none }
def guardLayRow : OpenClaim := { program := "ytifakhddmlalcaa", sum := "ee480af11a0a2cfd291be94c00a5f735545ccbae58eff53e2afe739e6de3acfa", func := "cubbyhole/cubbyholelaw29.GuardLay", spec := "guardLay", apart := false }
def GuardLaySaid : Prop := guardLayRow.holds Try.pinned (OpenSpec.ofChange guardLaySpec)

/-- ITS FALSE NEIGHBOUR: 'it returns false'. Refute it at one input. -/
def guardLayWrong : ChangeSpec := { name := "guardLay", fn := fun _ => fun
  | [d1, d2, d3] => { results := [.lit (.bool false)], args := [d1, d2, d3] }
  | _ => none }
def GuardLayWrongFalsely : Prop := guardLayRow.holds Try.pinned (OpenSpec.ofChange guardLayWrong)

/-- 'cubbyholelaw38.ConfCheck': WHATEVER THE INPUT: true; the input reads as it did. -/
def confCheckSpec : ChangeSpec := { name := "confCheck", fn := fun _ => fun
  | [d1, d2, d3] => { results := [.lit (.bool true)], args := [d1, d2, d3] }
  | _ => none }
def confCheckRow : OpenClaim := { program := "ytifakhddmlalcaa", sum := "ee480af11a0a2cfd291be94c00a5f735545ccbae58eff53e2afe739e6de3acfa", func := "cubbyhole/cubbyholelaw38.ConfCheck", spec := "confCheck", apart := false }
def ConfCheckSaid : Prop := confCheckRow.holds Try.pinned (OpenSpec.ofChange confCheckSpec)

/-- ITS FALSE NEIGHBOUR: 'it returns false'. Refute it at one input. -/
def confCheckWrong : ChangeSpec := { name := "confCheck", fn := fun _ => fun
  | [d1, d2, d3] => { results := [.lit (.bool false)], args := [d1, d2, d3] }
  | _ => none }
def ConfCheckWrongFalsely : Prop := confCheckRow.holds Try.pinned (OpenSpec.ofChange confCheckWrong)

/-- 'cubbyholelaw39.StatCounts': WHATEVER THE INPUT: true; the input reads as it did. -/
def statCountsSpec : ChangeSpec := { name := "statCounts", fn := fun _ => fun
  | [d] => { results := [.lit (.bool true)], args := [d] }
  | _ => none }
def statCountsRow : OpenClaim := { program := "ytifakhddmlalcaa", sum := "ee480af11a0a2cfd291be94c00a5f735545ccbae58eff53e2afe739e6de3acfa", func := "cubbyhole/cubbyholelaw39.StatCounts", spec := "statCounts", recurses := true, apart := false }
def StatCountsSaid : Prop := statCountsRow.holds Try.pinned (OpenSpec.ofChange statCountsSpec)

/-- ITS FALSE NEIGHBOUR: 'it returns false'. Refute it at one input. -/
def statCountsWrong : ChangeSpec := { name := "statCounts", fn := fun _ => fun
  | [d] => { results := [.lit (.bool false)], args := [d] }
  | _ => none }
def StatCountsWrongFalsely : Prop := statCountsRow.holds Try.pinned (OpenSpec.ofChange statCountsWrong)

/-- 'cubbyholelaw09.PermSets': WHATEVER THE INPUT: true; the input reads as it did. -/
def permSetsSpec : ChangeSpec := { name := "permSets", fn := fun _ => fun
  | [d1, d2] => { results := [.lit (.bool true)], args := [d1, d2] }
  | _ => none }
def permSetsRow : OpenClaim := { program := "ytifakhddmlalcaa", sum := "ee480af11a0a2cfd291be94c00a5f735545ccbae58eff53e2afe739e6de3acfa", func := "cubbyhole/cubbyholelaw09.PermSets", spec := "permSets", apart := false }
def PermSetsSaid : Prop := permSetsRow.holds Try.pinned (OpenSpec.ofChange permSetsSpec)

/-- ITS FALSE NEIGHBOUR: 'it returns false'. Refute it at one input. -/
def permSetsWrong : ChangeSpec := { name := "permSets", fn := fun _ => fun
  | [d1, d2] => { results := [.lit (.bool false)], args := [d1, d2] }
  | _ => none }
def PermSetsWrongFalsely : Prop := permSetsRow.holds Try.pinned (OpenSpec.ofChange permSetsWrong)

/-- 'cubbyholelaw01.NumMultiples': WHATEVER THE INPUT: true; the input reads as it did. -/
def numMultiplesSpec : ChangeSpec := { name := "numMultiples", fn := fun _ => fun
  | [d1, d2] => { results := [.lit (.bool true)], args := [d1, d2] }
  | _ => none }
def numMultiplesRow : OpenClaim := { program := "ytifakhddmlalcaa", sum := "ee480af11a0a2cfd291be94c00a5f735545ccbae58eff53e2afe739e6de3acfa", func := "cubbyhole/cubbyholelaw01.NumMultiples", spec := "numMultiples", recurses := true, apart := false }
def NumMultiplesSaid : Prop := numMultiplesRow.holds Try.pinned (OpenSpec.ofChange numMultiplesSpec)

/-- ITS FALSE NEIGHBOUR: 'it returns false'. Refute it at one input. -/
def numMultiplesWrong : ChangeSpec := { name := "numMultiples", fn := fun _ => fun
  | [d1, d2] => { results := [.lit (.bool false)], args := [d1, d2] }
  | _ => none }
def NumMultiplesWrongFalsely : Prop := numMultiplesRow.holds Try.pinned (OpenSpec.ofChange numMultiplesWrong)

/-- 'cubbyholelaw01.NumPowers': WHATEVER THE INPUT: true; the input reads as it did. -/
def numPowersSpec : ChangeSpec := { name := "numPowers", fn := fun _ => fun
  | [d] => { results := [.lit (.bool true)], args := [d] }
  | _ => none }
def numPowersRow : OpenClaim := { program := "ytifakhddmlalcaa", sum := "ee480af11a0a2cfd291be94c00a5f735545ccbae58eff53e2afe739e6de3acfa", func := "cubbyhole/cubbyholelaw01.NumPowers", spec := "numPowers", recurses := true, apart := false }
def NumPowersSaid : Prop := numPowersRow.holds Try.pinned (OpenSpec.ofChange numPowersSpec)

/-- ITS FALSE NEIGHBOUR: 'it returns false'. Refute it at one input. -/
def numPowersWrong : ChangeSpec := { name := "numPowers", fn := fun _ => fun
  | [d] => { results := [.lit (.bool false)], args := [d] }
  | _ => none }
def NumPowersWrongFalsely : Prop := numPowersRow.holds Try.pinned (OpenSpec.ofChange numPowersWrong)

/-- 'cubbyholelaw38.ConfPages': WHATEVER THE INPUT: true; the input reads as it did. -/
def confPagesSpec : ChangeSpec := { name := "confPages", fn := fun _ => fun
  | [d1, d2, d3] => { results := [.lit (.bool true)], args := [d1, d2, d3] }
  | _ => none }
def confPagesRow : OpenClaim := { program := "ytifakhddmlalcaa", sum := "ee480af11a0a2cfd291be94c00a5f735545ccbae58eff53e2afe739e6de3acfa", func := "cubbyhole/cubbyholelaw38.ConfPages", spec := "confPages", apart := false }
def ConfPagesSaid : Prop := confPagesRow.holds Try.pinned (OpenSpec.ofChange confPagesSpec)

/-- ITS FALSE NEIGHBOUR: 'it returns false'. Refute it at one input. -/
def confPagesWrong : ChangeSpec := { name := "confPages", fn := fun _ => fun
  | [d1, d2, d3] => { results := [.lit (.bool false)], args := [d1, d2, d3] }
  | _ => none }
def ConfPagesWrongFalsely : Prop := confPagesRow.holds Try.pinned (OpenSpec.ofChange confPagesWrong)

/-- 'cubbyholelaw16.ClassFor': WHATEVER THE INPUT: true; the input reads as it did. -/
def classForSpec : ChangeSpec := { name := "classFor", fn := fun _ => fun
  | [d1, d2] => { results := [.lit (.bool true)], args := [d1, d2] }
  | _ => none }
def classForRow : OpenClaim := { program := "ytifakhddmlalcaa", sum := "ee480af11a0a2cfd291be94c00a5f735545ccbae58eff53e2afe739e6de3acfa", func := "cubbyhole/cubbyholelaw16.ClassFor", spec := "classFor", apart := false }
def ClassForSaid : Prop := classForRow.holds Try.pinned (OpenSpec.ofChange classForSpec)

/-- ITS FALSE NEIGHBOUR: 'it returns false'. Refute it at one input. -/
def classForWrong : ChangeSpec := { name := "classFor", fn := fun _ => fun
  | [d1, d2] => { results := [.lit (.bool false)], args := [d1, d2] }
  | _ => none }
def ClassForWrongFalsely : Prop := classForRow.holds Try.pinned (OpenSpec.ofChange classForWrong)

/-- 'cubbyholelaw16.ClassTight': WHATEVER THE INPUT: true; the input reads as it did. -/
def classTightSpec : ChangeSpec := { name := "classTight", fn := fun _ => fun
  | [d] => { results := [.lit (.bool true)], args := [d] }
  | _ => none }
def classTightRow : OpenClaim := { program := "ytifakhddmlalcaa", sum := "ee480af11a0a2cfd291be94c00a5f735545ccbae58eff53e2afe739e6de3acfa", func := "cubbyhole/cubbyholelaw16.ClassTight", spec := "classTight", apart := false }
def ClassTightSaid : Prop := classTightRow.holds Try.pinned (OpenSpec.ofChange classTightSpec)

/-- ITS FALSE NEIGHBOUR: 'it returns false'. Refute it at one input. -/
def classTightWrong : ChangeSpec := { name := "classTight", fn := fun _ => fun
  | [d] => { results := [.lit (.bool false)], args := [d] }
  | _ => none }
def ClassTightWrongFalsely : Prop := classTightRow.holds Try.pinned (OpenSpec.ofChange classTightWrong)

/- THE SECOND FORM. 'bulk': how many values and letters a reading holds, each counted each time it is reached (what is shared counts as often as it is met; a slice's spare places count too). A statement '..UptoSaid' is the law's where the arguments, and the package variables that the reading takes, are together of bulk at most 1048576: NARROWER than '..Said'. Prove '..Said' where nothing that the law and all that it calls make is longer than what came in: it says more and counts as full. Else prove '..UptoSaid'. A law counts once. -/
mutual
def uptoBulk {H : Type} : DataW H → Nat
  | .lit (.string bytes) => bytes.length + 1
  | .lit _ => 1
  | .nil => 1
  | .ptr d => uptoBulk d + 1
  | .slice elems spare => uptoBulkAll elems + uptoBulkAll spare + 1
  | .agg parts => uptoBulkAll parts + 1
  | .iface _ d => uptoBulk d + 1
  | .map entries => uptoBulkEntries entries + 1
  | .held _ => 1
def uptoBulkAll {H : Type} : List (DataW H) → Nat
  | [] => 0
  | d :: r => uptoBulk d + uptoBulkAll r
def uptoBulkEntries {H : Type} : List (Lit × DataW H) → Nat
  | [] => 0
  | x :: r => uptoBulkEntry x + uptoBulkEntries r
def uptoBulkEntry {H : Type} : Lit × DataW H → Nat
  | (.string bytes, d) => bytes.length + uptoBulk d + 1
  | (_, d) => uptoBulk d + 1
 end
def uptoSmall : (H : Type) → List (DataW H) → Bool := fun _ ds => decide (uptoBulkAll ds ≤ 1048576)
def OpenSpec.upto (s : _root_.Go.ChangeSpec) : _root_.Go.OpenSpec := { _root_.Go.OpenSpec.ofChange s with cond := some uptoSmall }

/-- 'cubbyholelaw09.PermTexts', WHERE WHAT IT READS IS OF BULK AT MOST 1048576: true; the input reads as it did. -/
def permTextsUptoRow : OpenClaim := { program := "ytifakhddmlalcaa", sum := "ee480af11a0a2cfd291be94c00a5f735545ccbae58eff53e2afe739e6de3acfa", func := "cubbyhole/cubbyholelaw09.PermTexts", spec := "permTexts", apart := false, narrowed := true }
def PermTextsUptoSaid : Prop := permTextsUptoRow.holds Try.pinned (OpenSpec.upto permTextsSpec)

/-- 'cubbyholelaw39.StatTexts', WHERE WHAT IT READS IS OF BULK AT MOST 1048576: true; the input reads as it did. -/
def statTextsUptoRow : OpenClaim := { program := "ytifakhddmlalcaa", sum := "ee480af11a0a2cfd291be94c00a5f735545ccbae58eff53e2afe739e6de3acfa", func := "cubbyhole/cubbyholelaw39.StatTexts", spec := "statTexts", recurses := true, apart := false, narrowed := true }
def StatTextsUptoSaid : Prop := statTextsUptoRow.holds Try.pinned (OpenSpec.upto statTextsSpec)

/-- 'cubbyholelaw29.GuardNeed', WHERE WHAT IT READS IS OF BULK AT MOST 1048576: true; the input reads as it did. -/
def guardNeedUptoRow : OpenClaim := { program := "ytifakhddmlalcaa", sum := "ee480af11a0a2cfd291be94c00a5f735545ccbae58eff53e2afe739e6de3acfa", func := "cubbyhole/cubbyholelaw29.GuardNeed", spec := "guardNeed", apart := false, narrowed := true }
def GuardNeedUptoSaid : Prop := guardNeedUptoRow.holds Try.pinned (OpenSpec.upto guardNeedSpec)

/-- 'cubbyholelaw29.GuardLay', WHERE WHAT IT READS IS OF BULK AT MOST 1048576: true; the input reads as it did. -/
def guardLayUptoRow : OpenClaim := { program := "ytifakhddmlalcaa", sum := "ee480af11a0a2cfd291be94c00a5f735545ccbae58eff53e2afe739e6de3acfa", func := "cubbyhole/cubbyholelaw29.GuardLay", spec := "guardLay", apart := false, narrowed := true }
def GuardLayUptoSaid : Prop := guardLayUptoRow.holds Try.pinned (OpenSpec.upto guardLaySpec)

/-- 'cubbyholelaw38.ConfCheck', WHERE WHAT IT READS IS OF BULK AT MOST 1048576: true; the input reads as it did. -/
def confCheckUptoRow : OpenClaim := { program := "ytifakhddmlalcaa", sum := "ee480af11a0a2cfd291be94c00a5f735545ccbae58eff53e2afe739e6de3acfa", func := "cubbyhole/cubbyholelaw38.ConfCheck", spec := "confCheck", apart := false, narrowed := true }
def ConfCheckUptoSaid : Prop := confCheckUptoRow.holds Try.pinned (OpenSpec.upto confCheckSpec)

/-- 'cubbyholelaw39.StatCounts', WHERE WHAT IT READS IS OF BULK AT MOST 1048576: true; the input reads as it did. -/
def statCountsUptoRow : OpenClaim := { program := "ytifakhddmlalcaa", sum := "ee480af11a0a2cfd291be94c00a5f735545ccbae58eff53e2afe739e6de3acfa", func := "cubbyhole/cubbyholelaw39.StatCounts", spec := "statCounts", recurses := true, apart := false, narrowed := true }
def StatCountsUptoSaid : Prop := statCountsUptoRow.holds Try.pinned (OpenSpec.upto statCountsSpec)

/-- 'cubbyholelaw09.PermSets', WHERE WHAT IT READS IS OF BULK AT MOST 1048576: true; the input reads as it did. -/
def permSetsUptoRow : OpenClaim := { program := "ytifakhddmlalcaa", sum := "ee480af11a0a2cfd291be94c00a5f735545ccbae58eff53e2afe739e6de3acfa", func := "cubbyhole/cubbyholelaw09.PermSets", spec := "permSets", apart := false, narrowed := true }
def PermSetsUptoSaid : Prop := permSetsUptoRow.holds Try.pinned (OpenSpec.upto permSetsSpec)

/-- 'cubbyholelaw01.NumMultiples', WHERE WHAT IT READS IS OF BULK AT MOST 1048576: true; the input reads as it did. -/
def numMultiplesUptoRow : OpenClaim := { program := "ytifakhddmlalcaa", sum := "ee480af11a0a2cfd291be94c00a5f735545ccbae58eff53e2afe739e6de3acfa", func := "cubbyhole/cubbyholelaw01.NumMultiples", spec := "numMultiples", recurses := true, apart := false, narrowed := true }
def NumMultiplesUptoSaid : Prop := numMultiplesUptoRow.holds Try.pinned (OpenSpec.upto numMultiplesSpec)

/-- 'cubbyholelaw01.NumPowers', WHERE WHAT IT READS IS OF BULK AT MOST 1048576: true; the input reads as it did. -/
def numPowersUptoRow : OpenClaim := { program := "ytifakhddmlalcaa", sum := "ee480af11a0a2cfd291be94c00a5f735545ccbae58eff53e2afe739e6de3acfa", func := "cubbyhole/cubbyholelaw01.NumPowers", spec := "numPowers", recurses := true, apart := false, narrowed := true }
def NumPowersUptoSaid : Prop := numPowersUptoRow.holds Try.pinned (OpenSpec.upto numPowersSpec)

/-- 'cubbyholelaw38.ConfPages', WHERE WHAT IT READS IS OF BULK AT MOST 1048576: true; the input reads as it did. -/
def confPagesUptoRow : OpenClaim := { program := "ytifakhddmlalcaa", sum := "ee480af11a0a2cfd291be94c00a5f735545ccbae58eff53e2afe739e6de3acfa", func := "cubbyhole/cubbyholelaw38.ConfPages", spec := "confPages", apart := false, narrowed := true }
def ConfPagesUptoSaid : Prop := confPagesUptoRow.holds Try.pinned (OpenSpec.upto confPagesSpec)

/-- 'cubbyholelaw16.ClassFor', WHERE WHAT IT READS IS OF BULK AT MOST 1048576: true; the input reads as it did. -/
def classForUptoRow : OpenClaim := { program := "ytifakhddmlalcaa", sum := "ee480af11a0a2cfd291be94c00a5f735545ccbae58eff53e2afe739e6de3acfa", func := "cubbyhole/cubbyholelaw16.ClassFor", spec := "classFor", apart := false, narrowed := true }
def ClassForUptoSaid : Prop := classForUptoRow.holds Try.pinned (OpenSpec.upto classForSpec)

/-- 'cubbyholelaw16.ClassTight', WHERE WHAT IT READS IS OF BULK AT MOST 1048576: true; the input reads as it did. -/
def classTightUptoRow : OpenClaim := { program := "ytifakhddmlalcaa", sum := "ee480af11a0a2cfd291be94c00a5f735545ccbae58eff53e2afe739e6de3acfa", func := "cubbyhole/cubbyholelaw16.ClassTight", spec := "classTight", apart := false, narrowed := true }
def ClassTightUptoSaid : Prop := classTightUptoRow.holds Try.pinned (OpenSpec.upto classTightSpec)

end Rows
end Go.Proofs.Ytifakhddmlalcaa
