/-
  No cell of these rows narrows 'for every input' (looked for: loops, veiled, ifaces, maps, wideKeys, modest, calm, conditions, laid).
  DERIVED. THE GIVEN ROWS OF THIS SEAT. 3 by the template 'for every input the law returns true; each argument reads behind the call as it read before'; 0 by the template 'total and deterministic' (their statements: YtifakhddmlalcabTotals.lean).
  GIVEN WITH THE SEED: the statements are not yours to turn. If you find one false, say at which input.
  Laid BY PROGRAM, IN A SANDBOX (cutbox-rows.mjs): the forced cells as the released guide's own fill.sh prints them over the translation a6f7207274e882c1… (all of the seat's roots in one cut). By AI agents, Wed Nov 11 2026. No macro, syntax, notation, axiom, sorry.
-/
import Derived.Test.YtifakhddmlalcabChecked
import GoSem.Claim
import GoSem.ClaimJoined
import GoSem.ClaimMapViews
import Derived.JoinedTies
import Derived.KernelRfl
namespace Go.Proofs.Ytifakhddmlalcab
/- THE CELL 'sum', in the pinned program and in every row, IS THE sha256 OF THE DUMP (.gsa) THAT YtifakhddmlalcabProg.lean LOADS. Nothing in Lean hashes anything: it is a label: what it is worth is what the hold of that sum in a sandbox is worth. -/
noncomputable def Try.pinned : Pinned := { name := "ytifakhddmlalcab", sum := "a6f7207274e882c103fa4b8b480f36923b32b388016380a223845d3179838ca5", checked := Try.checked }
namespace Rows
def none {H : Type} : Left H := { results := [], args := [] }

/-- 'cubbyholelaw01.NumClips': WHATEVER THE INPUT: true; the input reads as it did. -/
def numClipsSpec : ChangeSpec := { name := "numClips", fn := fun _ => fun
  | [d1, d2, d3] => { results := [.lit (.bool true)], args := [d1, d2, d3] }
  | _ => none }
def numClipsRow : OpenClaim := { program := "ytifakhddmlalcab", sum := "a6f7207274e882c103fa4b8b480f36923b32b388016380a223845d3179838ca5", func := "cubbyhole/cubbyholelaw01.NumClips", spec := "numClips", recurses := true, apart := false }
def NumClipsSaid : Prop := numClipsRow.holds Try.pinned (OpenSpec.ofChange numClipsSpec)

/-- ITS FALSE NEIGHBOUR: 'it returns false'. Refute it at one input. -/
def numClipsWrong : ChangeSpec := { name := "numClips", fn := fun _ => fun
  | [d1, d2, d3] => { results := [.lit (.bool false)], args := [d1, d2, d3] }
  | _ => none }
def NumClipsWrongFalsely : Prop := numClipsRow.holds Try.pinned (OpenSpec.ofChange numClipsWrong)

/-- 'cubbyholelaw01.NumTexts': WHATEVER THE INPUT: true; the input reads as it did. -/
def numTextsSpec : ChangeSpec := { name := "numTexts", fn := fun _ => fun
  | [d1, d2, d3] => { results := [.lit (.bool true)], args := [d1, d2, d3] }
  | _ => none }
def numTextsRow : OpenClaim := { program := "ytifakhddmlalcab", sum := "a6f7207274e882c103fa4b8b480f36923b32b388016380a223845d3179838ca5", func := "cubbyhole/cubbyholelaw01.NumTexts", spec := "numTexts", recurses := true, apart := false }
def NumTextsSaid : Prop := numTextsRow.holds Try.pinned (OpenSpec.ofChange numTextsSpec)

/-- ITS FALSE NEIGHBOUR: 'it returns false'. Refute it at one input. -/
def numTextsWrong : ChangeSpec := { name := "numTexts", fn := fun _ => fun
  | [d1, d2, d3] => { results := [.lit (.bool false)], args := [d1, d2, d3] }
  | _ => none }
def NumTextsWrongFalsely : Prop := numTextsRow.holds Try.pinned (OpenSpec.ofChange numTextsWrong)

/-- 'cubbyholelaw16.ClassFit': WHATEVER THE INPUT: true; the input reads as it did. -/
def classFitSpec : ChangeSpec := { name := "classFit", fn := fun _ => fun
  | [d1, d2] => { results := [.lit (.bool true)], args := [d1, d2] }
  | _ => none }
def classFitRow : OpenClaim := { program := "ytifakhddmlalcab", sum := "a6f7207274e882c103fa4b8b480f36923b32b388016380a223845d3179838ca5", func := "cubbyhole/cubbyholelaw16.ClassFit", spec := "classFit", apart := false }
def ClassFitSaid : Prop := classFitRow.holds Try.pinned (OpenSpec.ofChange classFitSpec)

/-- ITS FALSE NEIGHBOUR: 'it returns false'. Refute it at one input. -/
def classFitWrong : ChangeSpec := { name := "classFit", fn := fun _ => fun
  | [d1, d2] => { results := [.lit (.bool false)], args := [d1, d2] }
  | _ => none }
def ClassFitWrongFalsely : Prop := classFitRow.holds Try.pinned (OpenSpec.ofChange classFitWrong)

/- THE SECOND FORM. 'bulk': how many values and letters a reading holds, each counted each time it is reached (what is shared counts as often as it is met; a slice's spare places count too). A statement '..UptoSaid' is the law's where the arguments, and the package variables that the reading takes, are together of bulk at most 1048576: NARROWER than '..Said'. Prove '..Said' where nothing that the law and all that it calls make is longer than what came in: it says more and counts as full. Else prove '..UptoSaid'. A law counts once. -/
mutual
def uptoBulk {H : Type} : DataW H → Nat
  | .lit (.string bytes) => bytes.length + 1
  | .lit _ => 1
  | .nil => 1
  | .ptr d => uptoBulk d + 1
  | .slice elems spare => uptoBulkAll elems + uptoBulkAll spare + 1
  | .agg parts => uptoBulkAll parts + 1
  | .iface _ d => uptoBulk d + 1
  | .map entries => uptoBulkEntries entries + 1
  | .held _ => 1
def uptoBulkAll {H : Type} : List (DataW H) → Nat
  | [] => 0
  | d :: r => uptoBulk d + uptoBulkAll r
def uptoBulkEntries {H : Type} : List (Lit × DataW H) → Nat
  | [] => 0
  | x :: r => uptoBulkEntry x + uptoBulkEntries r
def uptoBulkEntry {H : Type} : Lit × DataW H → Nat
  | (.string bytes, d) => bytes.length + uptoBulk d + 1
  | (_, d) => uptoBulk d + 1
 end
def uptoSmall : (H : Type) → List (DataW H) → Bool := fun _ ds => decide (uptoBulkAll ds ≤ 1048576)
def OpenSpec.upto (s : _root_.Go.ChangeSpec) : _root_.Go.OpenSpec := { _root_.Go.OpenSpec.ofChange s with cond := some uptoSmall }

/-- 'cubbyholelaw01.NumClips', WHERE WHAT IT READS IS OF BULK AT MOST 1048576: true; the input reads as it did. -/
def numClipsUptoRow : OpenClaim := { program := "ytifakhddmlalcab", sum := "a6f7207274e882c103fa4b8b480f36923b32b388016380a223845d3179838ca5", func := "cubbyhole/cubbyholelaw01.NumClips", spec := "numClips", recurses := true, apart := false, narrowed := true }
def NumClipsUptoSaid : Prop := numClipsUptoRow.holds Try.pinned (OpenSpec.upto numClipsSpec)

/-- 'cubbyholelaw01.NumTexts', WHERE WHAT IT READS IS OF BULK AT MOST 1048576: true; the input reads as it did. -/
def numTextsUptoRow : OpenClaim := { program := "ytifakhddmlalcab", sum := "a6f7207274e882c103fa4b8b480f36923b32b388016380a223845d3179838ca5", func := "cubbyhole/cubbyholelaw01.NumTexts", spec := "numTexts", recurses := true, apart := false, narrowed := true }
def NumTextsUptoSaid : Prop := numTextsUptoRow.holds Try.pinned (OpenSpec.upto numTextsSpec)

/-- 'cubbyholelaw16.ClassFit', WHERE WHAT IT READS IS OF BULK AT MOST 1048576: true; the input reads as it did. -/
def classFitUptoRow : OpenClaim := { program := "ytifakhddmlalcab", sum := "a6f7207274e882c103fa4b8b480f36923b32b388016380a223845d3179838ca5", func := "cubbyhole/cubbyholelaw16.ClassFit", spec := "classFit", apart := false, narrowed := true }
def ClassFitUptoSaid : Prop := classFitUptoRow.holds Try.pinned (OpenSpec.upto classFitSpec)

end Rows
end Go.Proofs.Ytifakhddmlalcab
