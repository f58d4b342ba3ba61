/-
  No cell of these rows narrows 'for every input' (looked for: loops, veiled, ifaces, maps, wideKeys, modest, calm, conditions, laid).
  DERIVED. THE GIVEN ROWS OF THIS SEAT. 12 by the template 'for every input the law returns true; each argument reads behind the call as it read before'; 0 by the template 'total and deterministic' (their statements: YtpnfmbdiffjinaaTotals.lean).
  GIVEN WITH THE SEED: the statements are not yours to turn. If you find one false, say at which input.
  Laid BY PROGRAM, IN A SANDBOX (cutbox-rows.mjs): the forced cells as the released guide's own fill.sh prints them over the translation b06b83ac52f41ebe… (all of the seat's roots in one cut). By AI agents, Wed Nov 11 2026. No macro, syntax, notation, axiom, sorry.
-/
import Derived.Test.YtpnfmbdiffjinaaChecked
import GoSem.Claim
import GoSem.ClaimJoined
import GoSem.ClaimMapViews
import Derived.JoinedTies
import Derived.KernelRfl
namespace Go.Proofs.Ytpnfmbdiffjinaa
/- THE CELL 'sum', in the pinned program and in every row, IS THE sha256 OF THE DUMP (.gsa) THAT YtpnfmbdiffjinaaProg.lean LOADS. Nothing in Lean hashes anything: it is a label: what it is worth is what the hold of that sum in a sandbox is worth. -/
noncomputable def Try.pinned : Pinned := { name := "ytpnfmbdiffjinaa", sum := "b06b83ac52f41ebe399d28480a58415de271ce6a6acb3e22f5e8487127bb776c", checked := Try.checked }
namespace Rows
def none {H : Type} : Left H := { results := [], args := [] }

/-- 'laws.FnExactMostIn': WHATEVER THE INPUT: true; the input reads as it did. -/
def fnExactMostInSpec : ChangeSpec := { name := "fnExactMostIn", fn := fun _ => fun
  | [d1, d2, d3] => { results := [.lit (.bool true)], args := [d1, d2, d3] }
  | _ => none }
def fnExactMostInRow : OpenClaim := { program := "ytpnfmbdiffjinaa", sum := "b06b83ac52f41ebe399d28480a58415de271ce6a6acb3e22f5e8487127bb776c", func := "loop.example/g00315/laws.FnExactMostIn", spec := "fnExactMostIn", apart := false }
def FnExactMostInSaid : Prop := fnExactMostInRow.holds Try.pinned (OpenSpec.ofChange fnExactMostInSpec)

/-- ITS FALSE NEIGHBOUR: 'it returns false'. Refute it at one input. -/
def fnExactMostInWrong : ChangeSpec := { name := "fnExactMostIn", fn := fun _ => fun
  | [d1, d2, d3] => { results := [.lit (.bool false)], args := [d1, d2, d3] }
  | _ => none }
def FnExactMostInWrongFalsely : Prop := fnExactMostInRow.holds Try.pinned (OpenSpec.ofChange fnExactMostInWrong)

/-- 'laws.FnExactGoodBucket': WHATEVER THE INPUT: true; the input reads as it did. -/
def fnExactGoodBucketSpec : ChangeSpec := { name := "fnExactGoodBucket", fn := fun _ => fun
  | [d] => { results := [.lit (.bool true)], args := [d] }
  | _ => none }
def fnExactGoodBucketRow : OpenClaim := { program := "ytpnfmbdiffjinaa", sum := "b06b83ac52f41ebe399d28480a58415de271ce6a6acb3e22f5e8487127bb776c", func := "loop.example/g00315/laws.FnExactGoodBucket", spec := "fnExactGoodBucket", apart := false }
def FnExactGoodBucketSaid : Prop := fnExactGoodBucketRow.holds Try.pinned (OpenSpec.ofChange fnExactGoodBucketSpec)

/-- ITS FALSE NEIGHBOUR: 'it returns false'. Refute it at one input. -/
def fnExactGoodBucketWrong : ChangeSpec := { name := "fnExactGoodBucket", fn := fun _ => fun
  | [d] => { results := [.lit (.bool false)], args := [d] }
  | _ => none }
def FnExactGoodBucketWrongFalsely : Prop := fnExactGoodBucketRow.holds Try.pinned (OpenSpec.ofChange fnExactGoodBucketWrong)

/-- 'laws.FnExactNewCell': WHATEVER THE INPUT: true; the input reads as it did. -/
def fnExactNewCellSpec : ChangeSpec := { name := "fnExactNewCell", fn := fun _ => fun
  | [d1, d2] => { results := [.lit (.bool true)], args := [d1, d2] }
  | _ => none }
def fnExactNewCellRow : OpenClaim := { program := "ytpnfmbdiffjinaa", sum := "b06b83ac52f41ebe399d28480a58415de271ce6a6acb3e22f5e8487127bb776c", func := "loop.example/g00315/laws.FnExactNewCell", spec := "fnExactNewCell", apart := false }
def FnExactNewCellSaid : Prop := fnExactNewCellRow.holds Try.pinned (OpenSpec.ofChange fnExactNewCellSpec)

/-- ITS FALSE NEIGHBOUR: 'it returns false'. Refute it at one input. -/
def fnExactNewCellWrong : ChangeSpec := { name := "fnExactNewCell", fn := fun _ => fun
  | [d1, d2] => { results := [.lit (.bool false)], args := [d1, d2] }
  | _ => none }
def FnExactNewCellWrongFalsely : Prop := fnExactNewCellRow.holds Try.pinned (OpenSpec.ofChange fnExactNewCellWrong)

/-- 'laws.FnExactNewBucket': WHATEVER THE INPUT: true; the input reads as it did. -/
def fnExactNewBucketSpec : ChangeSpec := { name := "fnExactNewBucket", fn := fun _ => fun
  | [d1, d2] => { results := [.lit (.bool true)], args := [d1, d2] }
  | _ => none }
def fnExactNewBucketRow : OpenClaim := { program := "ytpnfmbdiffjinaa", sum := "b06b83ac52f41ebe399d28480a58415de271ce6a6acb3e22f5e8487127bb776c", func := "loop.example/g00315/laws.FnExactNewBucket", spec := "fnExactNewBucket", apart := false }
def FnExactNewBucketSaid : Prop := fnExactNewBucketRow.holds Try.pinned (OpenSpec.ofChange fnExactNewBucketSpec)

/-- ITS FALSE NEIGHBOUR: 'it returns false'. Refute it at one input. -/
def fnExactNewBucketWrong : ChangeSpec := { name := "fnExactNewBucket", fn := fun _ => fun
  | [d1, d2] => { results := [.lit (.bool false)], args := [d1, d2] }
  | _ => none }
def FnExactNewBucketWrongFalsely : Prop := fnExactNewBucketRow.holds Try.pinned (OpenSpec.ofChange fnExactNewBucketWrong)

/-- 'laws.FnExactLevelAt': WHATEVER THE INPUT: true; the input reads as it did. -/
def fnExactLevelAtSpec : ChangeSpec := { name := "fnExactLevelAt", fn := fun _ => fun
  | [d1, d2] => { results := [.lit (.bool true)], args := [d1, d2] }
  | _ => none }
def fnExactLevelAtRow : OpenClaim := { program := "ytpnfmbdiffjinaa", sum := "b06b83ac52f41ebe399d28480a58415de271ce6a6acb3e22f5e8487127bb776c", func := "loop.example/g00315/laws.FnExactLevelAt", spec := "fnExactLevelAt", apart := false }
def FnExactLevelAtSaid : Prop := fnExactLevelAtRow.holds Try.pinned (OpenSpec.ofChange fnExactLevelAtSpec)

/-- ITS FALSE NEIGHBOUR: 'it returns false'. Refute it at one input. -/
def fnExactLevelAtWrong : ChangeSpec := { name := "fnExactLevelAt", fn := fun _ => fun
  | [d1, d2] => { results := [.lit (.bool false)], args := [d1, d2] }
  | _ => none }
def FnExactLevelAtWrongFalsely : Prop := fnExactLevelAtRow.holds Try.pinned (OpenSpec.ofChange fnExactLevelAtWrong)

/-- 'laws.FnExactAskCell': WHATEVER THE INPUT: true; the input reads as it did. -/
def fnExactAskCellSpec : ChangeSpec := { name := "fnExactAskCell", fn := fun _ => fun
  | [d1, d2] => { results := [.lit (.bool true)], args := [d1, d2] }
  | _ => none }
def fnExactAskCellRow : OpenClaim := { program := "ytpnfmbdiffjinaa", sum := "b06b83ac52f41ebe399d28480a58415de271ce6a6acb3e22f5e8487127bb776c", func := "loop.example/g00315/laws.FnExactAskCell", spec := "fnExactAskCell", apart := false }
def FnExactAskCellSaid : Prop := fnExactAskCellRow.holds Try.pinned (OpenSpec.ofChange fnExactAskCellSpec)

/-- ITS FALSE NEIGHBOUR: 'it returns false'. Refute it at one input. -/
def fnExactAskCellWrong : ChangeSpec := { name := "fnExactAskCell", fn := fun _ => fun
  | [d1, d2] => { results := [.lit (.bool false)], args := [d1, d2] }
  | _ => none }
def FnExactAskCellWrongFalsely : Prop := fnExactAskCellRow.holds Try.pinned (OpenSpec.ofChange fnExactAskCellWrong)

/-- 'laws.FnExactNewSpray': WHATEVER THE INPUT: true; the input reads as it did. -/
def fnExactNewSpraySpec : ChangeSpec := { name := "fnExactNewSpray", fn := fun _ => fun
  | [d1, d2, d3, d4] => { results := [.lit (.bool true)], args := [d1, d2, d3, d4] }
  | _ => none }
def fnExactNewSprayRow : OpenClaim := { program := "ytpnfmbdiffjinaa", sum := "b06b83ac52f41ebe399d28480a58415de271ce6a6acb3e22f5e8487127bb776c", func := "loop.example/g00315/laws.FnExactNewSpray", spec := "fnExactNewSpray", apart := false }
def FnExactNewSpraySaid : Prop := fnExactNewSprayRow.holds Try.pinned (OpenSpec.ofChange fnExactNewSpraySpec)

/-- ITS FALSE NEIGHBOUR: 'it returns false'. Refute it at one input. -/
def fnExactNewSprayWrong : ChangeSpec := { name := "fnExactNewSpray", fn := fun _ => fun
  | [d1, d2, d3, d4] => { results := [.lit (.bool false)], args := [d1, d2, d3, d4] }
  | _ => none }
def FnExactNewSprayWrongFalsely : Prop := fnExactNewSprayRow.holds Try.pinned (OpenSpec.ofChange fnExactNewSprayWrong)

/-- 'laws.FnExactAskBucket': WHATEVER THE INPUT: true; the input reads as it did. -/
def fnExactAskBucketSpec : ChangeSpec := { name := "fnExactAskBucket", fn := fun _ => fun
  | [d1, d2] => { results := [.lit (.bool true)], args := [d1, d2] }
  | _ => none }
def fnExactAskBucketRow : OpenClaim := { program := "ytpnfmbdiffjinaa", sum := "b06b83ac52f41ebe399d28480a58415de271ce6a6acb3e22f5e8487127bb776c", func := "loop.example/g00315/laws.FnExactAskBucket", spec := "fnExactAskBucket", apart := false }
def FnExactAskBucketSaid : Prop := fnExactAskBucketRow.holds Try.pinned (OpenSpec.ofChange fnExactAskBucketSpec)

/-- ITS FALSE NEIGHBOUR: 'it returns false'. Refute it at one input. -/
def fnExactAskBucketWrong : ChangeSpec := { name := "fnExactAskBucket", fn := fun _ => fun
  | [d1, d2] => { results := [.lit (.bool false)], args := [d1, d2] }
  | _ => none }
def FnExactAskBucketWrongFalsely : Prop := fnExactAskBucketRow.holds Try.pinned (OpenSpec.ofChange fnExactAskBucketWrong)

/-- 'laws.FnExactChildrenOf': WHATEVER THE INPUT: true; the input reads as it did. -/
def fnExactChildrenOfSpec : ChangeSpec := { name := "fnExactChildrenOf", fn := fun _ => fun
  | [d1, d2] => { results := [.lit (.bool true)], args := [d1, d2] }
  | _ => none }
def fnExactChildrenOfRow : OpenClaim := { program := "ytpnfmbdiffjinaa", sum := "b06b83ac52f41ebe399d28480a58415de271ce6a6acb3e22f5e8487127bb776c", func := "loop.example/g00315/laws.FnExactChildrenOf", spec := "fnExactChildrenOf", apart := false }
def FnExactChildrenOfSaid : Prop := fnExactChildrenOfRow.holds Try.pinned (OpenSpec.ofChange fnExactChildrenOfSpec)

/-- ITS FALSE NEIGHBOUR: 'it returns false'. Refute it at one input. -/
def fnExactChildrenOfWrong : ChangeSpec := { name := "fnExactChildrenOf", fn := fun _ => fun
  | [d1, d2] => { results := [.lit (.bool false)], args := [d1, d2] }
  | _ => none }
def FnExactChildrenOfWrongFalsely : Prop := fnExactChildrenOfRow.holds Try.pinned (OpenSpec.ofChange fnExactChildrenOfWrong)

/-- 'laws.FnExactGoodSpray': WHATEVER THE INPUT: true; the input reads as it did. -/
def fnExactGoodSpraySpec : ChangeSpec := { name := "fnExactGoodSpray", fn := fun _ => fun
  | [d] => { results := [.lit (.bool true)], args := [d] }
  | _ => none }
def fnExactGoodSprayRow : OpenClaim := { program := "ytpnfmbdiffjinaa", sum := "b06b83ac52f41ebe399d28480a58415de271ce6a6acb3e22f5e8487127bb776c", func := "loop.example/g00315/laws.FnExactGoodSpray", spec := "fnExactGoodSpray", unfollowed := true, recurses := true, apart := false }
def FnExactGoodSpraySaid : Prop := fnExactGoodSprayRow.holds Try.pinned (OpenSpec.ofChange fnExactGoodSpraySpec)

/-- ITS FALSE NEIGHBOUR: 'it returns false'. Refute it at one input. -/
def fnExactGoodSprayWrong : ChangeSpec := { name := "fnExactGoodSpray", fn := fun _ => fun
  | [d] => { results := [.lit (.bool false)], args := [d] }
  | _ => none }
def FnExactGoodSprayWrongFalsely : Prop := fnExactGoodSprayRow.holds Try.pinned (OpenSpec.ofChange fnExactGoodSprayWrong)

/-- 'laws.FnExactTokensIn': WHATEVER THE INPUT: true; the input reads as it did. -/
def fnExactTokensInSpec : ChangeSpec := { name := "fnExactTokensIn", fn := fun _ => fun
  | [d] => { results := [.lit (.bool true)], args := [d] }
  | _ => none }
def fnExactTokensInRow : OpenClaim := { program := "ytpnfmbdiffjinaa", sum := "b06b83ac52f41ebe399d28480a58415de271ce6a6acb3e22f5e8487127bb776c", func := "loop.example/g00315/laws.FnExactTokensIn", spec := "fnExactTokensIn", unfollowed := true, recurses := true, apart := false }
def FnExactTokensInSaid : Prop := fnExactTokensInRow.holds Try.pinned (OpenSpec.ofChange fnExactTokensInSpec)

/-- ITS FALSE NEIGHBOUR: 'it returns false'. Refute it at one input. -/
def fnExactTokensInWrong : ChangeSpec := { name := "fnExactTokensIn", fn := fun _ => fun
  | [d] => { results := [.lit (.bool false)], args := [d] }
  | _ => none }
def FnExactTokensInWrongFalsely : Prop := fnExactTokensInRow.holds Try.pinned (OpenSpec.ofChange fnExactTokensInWrong)

/-- 'laws.FnExactNewTurns': WHATEVER THE INPUT: true; the input reads as it did. -/
def fnExactNewTurnsSpec : ChangeSpec := { name := "fnExactNewTurns", fn := fun _ => fun
  | [d1, d2] => { results := [.lit (.bool true)], args := [d1, d2] }
  | _ => none }
def fnExactNewTurnsRow : OpenClaim := { program := "ytpnfmbdiffjinaa", sum := "b06b83ac52f41ebe399d28480a58415de271ce6a6acb3e22f5e8487127bb776c", func := "loop.example/g00315/laws.FnExactNewTurns", spec := "fnExactNewTurns", apart := false }
def FnExactNewTurnsSaid : Prop := fnExactNewTurnsRow.holds Try.pinned (OpenSpec.ofChange fnExactNewTurnsSpec)

/-- ITS FALSE NEIGHBOUR: 'it returns false'. Refute it at one input. -/
def fnExactNewTurnsWrong : ChangeSpec := { name := "fnExactNewTurns", fn := fun _ => fun
  | [d1, d2] => { results := [.lit (.bool false)], args := [d1, d2] }
  | _ => none }
def FnExactNewTurnsWrongFalsely : Prop := fnExactNewTurnsRow.holds Try.pinned (OpenSpec.ofChange fnExactNewTurnsWrong)

/- THE SECOND FORM. 'bulk': how many values and letters a reading holds, each counted each time it is reached (what is shared counts as often as it is met; a slice's spare places count too). A statement '..UptoSaid' is the law's where the arguments, and the package variables that the reading takes, are together of bulk at most 1048576: NARROWER than '..Said'. Prove '..Said' where nothing that the law and all that it calls make is longer than what came in: it says more and counts as full. Else prove '..UptoSaid'. A law counts once. -/
mutual
def uptoBulk {H : Type} : DataW H → Nat
  | .lit (.string bytes) => bytes.length + 1
  | .lit _ => 1
  | .nil => 1
  | .ptr d => uptoBulk d + 1
  | .slice elems spare => uptoBulkAll elems + uptoBulkAll spare + 1
  | .agg parts => uptoBulkAll parts + 1
  | .iface _ d => uptoBulk d + 1
  | .map entries => uptoBulkEntries entries + 1
  | .held _ => 1
def uptoBulkAll {H : Type} : List (DataW H) → Nat
  | [] => 0
  | d :: r => uptoBulk d + uptoBulkAll r
def uptoBulkEntries {H : Type} : List (Lit × DataW H) → Nat
  | [] => 0
  | x :: r => uptoBulkEntry x + uptoBulkEntries r
def uptoBulkEntry {H : Type} : Lit × DataW H → Nat
  | (.string bytes, d) => bytes.length + uptoBulk d + 1
  | (_, d) => uptoBulk d + 1
 end
def uptoSmall : (H : Type) → List (DataW H) → Bool := fun _ ds => decide (uptoBulkAll ds ≤ 1048576)
def OpenSpec.upto (s : _root_.Go.ChangeSpec) : _root_.Go.OpenSpec := { _root_.Go.OpenSpec.ofChange s with cond := some uptoSmall }

/-- 'laws.FnExactMostIn', WHERE WHAT IT READS IS OF BULK AT MOST 1048576: true; the input reads as it did. -/
def fnExactMostInUptoRow : OpenClaim := { program := "ytpnfmbdiffjinaa", sum := "b06b83ac52f41ebe399d28480a58415de271ce6a6acb3e22f5e8487127bb776c", func := "loop.example/g00315/laws.FnExactMostIn", spec := "fnExactMostIn", apart := false, narrowed := true }
def FnExactMostInUptoSaid : Prop := fnExactMostInUptoRow.holds Try.pinned (OpenSpec.upto fnExactMostInSpec)

/-- 'laws.FnExactGoodBucket', WHERE WHAT IT READS IS OF BULK AT MOST 1048576: true; the input reads as it did. -/
def fnExactGoodBucketUptoRow : OpenClaim := { program := "ytpnfmbdiffjinaa", sum := "b06b83ac52f41ebe399d28480a58415de271ce6a6acb3e22f5e8487127bb776c", func := "loop.example/g00315/laws.FnExactGoodBucket", spec := "fnExactGoodBucket", apart := false, narrowed := true }
def FnExactGoodBucketUptoSaid : Prop := fnExactGoodBucketUptoRow.holds Try.pinned (OpenSpec.upto fnExactGoodBucketSpec)

/-- 'laws.FnExactNewCell', WHERE WHAT IT READS IS OF BULK AT MOST 1048576: true; the input reads as it did. -/
def fnExactNewCellUptoRow : OpenClaim := { program := "ytpnfmbdiffjinaa", sum := "b06b83ac52f41ebe399d28480a58415de271ce6a6acb3e22f5e8487127bb776c", func := "loop.example/g00315/laws.FnExactNewCell", spec := "fnExactNewCell", apart := false, narrowed := true }
def FnExactNewCellUptoSaid : Prop := fnExactNewCellUptoRow.holds Try.pinned (OpenSpec.upto fnExactNewCellSpec)

/-- 'laws.FnExactNewBucket', WHERE WHAT IT READS IS OF BULK AT MOST 1048576: true; the input reads as it did. -/
def fnExactNewBucketUptoRow : OpenClaim := { program := "ytpnfmbdiffjinaa", sum := "b06b83ac52f41ebe399d28480a58415de271ce6a6acb3e22f5e8487127bb776c", func := "loop.example/g00315/laws.FnExactNewBucket", spec := "fnExactNewBucket", apart := false, narrowed := true }
def FnExactNewBucketUptoSaid : Prop := fnExactNewBucketUptoRow.holds Try.pinned (OpenSpec.upto fnExactNewBucketSpec)

/-- 'laws.FnExactLevelAt', WHERE WHAT IT READS IS OF BULK AT MOST 1048576: true; the input reads as it did. -/
def fnExactLevelAtUptoRow : OpenClaim := { program := "ytpnfmbdiffjinaa", sum := "b06b83ac52f41ebe399d28480a58415de271ce6a6acb3e22f5e8487127bb776c", func := "loop.example/g00315/laws.FnExactLevelAt", spec := "fnExactLevelAt", apart := false, narrowed := true }
def FnExactLevelAtUptoSaid : Prop := fnExactLevelAtUptoRow.holds Try.pinned (OpenSpec.upto fnExactLevelAtSpec)

/-- 'laws.FnExactAskCell', WHERE WHAT IT READS IS OF BULK AT MOST 1048576: true; the input reads as it did. -/
def fnExactAskCellUptoRow : OpenClaim := { program := "ytpnfmbdiffjinaa", sum := "b06b83ac52f41ebe399d28480a58415de271ce6a6acb3e22f5e8487127bb776c", func := "loop.example/g00315/laws.FnExactAskCell", spec := "fnExactAskCell", apart := false, narrowed := true }
def FnExactAskCellUptoSaid : Prop := fnExactAskCellUptoRow.holds Try.pinned (OpenSpec.upto fnExactAskCellSpec)

/-- 'laws.FnExactNewSpray', WHERE WHAT IT READS IS OF BULK AT MOST 1048576: true; the input reads as it did. -/
def fnExactNewSprayUptoRow : OpenClaim := { program := "ytpnfmbdiffjinaa", sum := "b06b83ac52f41ebe399d28480a58415de271ce6a6acb3e22f5e8487127bb776c", func := "loop.example/g00315/laws.FnExactNewSpray", spec := "fnExactNewSpray", apart := false, narrowed := true }
def FnExactNewSprayUptoSaid : Prop := fnExactNewSprayUptoRow.holds Try.pinned (OpenSpec.upto fnExactNewSpraySpec)

/-- 'laws.FnExactAskBucket', WHERE WHAT IT READS IS OF BULK AT MOST 1048576: true; the input reads as it did. -/
def fnExactAskBucketUptoRow : OpenClaim := { program := "ytpnfmbdiffjinaa", sum := "b06b83ac52f41ebe399d28480a58415de271ce6a6acb3e22f5e8487127bb776c", func := "loop.example/g00315/laws.FnExactAskBucket", spec := "fnExactAskBucket", apart := false, narrowed := true }
def FnExactAskBucketUptoSaid : Prop := fnExactAskBucketUptoRow.holds Try.pinned (OpenSpec.upto fnExactAskBucketSpec)

/-- 'laws.FnExactChildrenOf', WHERE WHAT IT READS IS OF BULK AT MOST 1048576: true; the input reads as it did. -/
def fnExactChildrenOfUptoRow : OpenClaim := { program := "ytpnfmbdiffjinaa", sum := "b06b83ac52f41ebe399d28480a58415de271ce6a6acb3e22f5e8487127bb776c", func := "loop.example/g00315/laws.FnExactChildrenOf", spec := "fnExactChildrenOf", apart := false, narrowed := true }
def FnExactChildrenOfUptoSaid : Prop := fnExactChildrenOfUptoRow.holds Try.pinned (OpenSpec.upto fnExactChildrenOfSpec)

/-- 'laws.FnExactGoodSpray', WHERE WHAT IT READS IS OF BULK AT MOST 1048576: true; the input reads as it did. -/
def fnExactGoodSprayUptoRow : OpenClaim := { program := "ytpnfmbdiffjinaa", sum := "b06b83ac52f41ebe399d28480a58415de271ce6a6acb3e22f5e8487127bb776c", func := "loop.example/g00315/laws.FnExactGoodSpray", spec := "fnExactGoodSpray", unfollowed := true, recurses := true, apart := false, narrowed := true }
def FnExactGoodSprayUptoSaid : Prop := fnExactGoodSprayUptoRow.holds Try.pinned (OpenSpec.upto fnExactGoodSpraySpec)

/-- 'laws.FnExactTokensIn', WHERE WHAT IT READS IS OF BULK AT MOST 1048576: true; the input reads as it did. -/
def fnExactTokensInUptoRow : OpenClaim := { program := "ytpnfmbdiffjinaa", sum := "b06b83ac52f41ebe399d28480a58415de271ce6a6acb3e22f5e8487127bb776c", func := "loop.example/g00315/laws.FnExactTokensIn", spec := "fnExactTokensIn", unfollowed := true, recurses := true, apart := false, narrowed := true }
def FnExactTokensInUptoSaid : Prop := fnExactTokensInUptoRow.holds Try.pinned (OpenSpec.upto fnExactTokensInSpec)

/-- 'laws.FnExactNewTurns', WHERE WHAT IT READS IS OF BULK AT MOST 1048576: true; the input reads as it did. -/
def fnExactNewTurnsUptoRow : OpenClaim := { program := "ytpnfmbdiffjinaa", sum := "b06b83ac52f41ebe399d28480a58415de271ce6a6acb3e22f5e8487127bb776c", func := "loop.example/g00315/laws.FnExactNewTurns", spec := "fnExactNewTurns", apart := false, narrowed := true }
def FnExactNewTurnsUptoSaid : Prop := fnExactNewTurnsUptoRow.holds Try.pinned (OpenSpec.upto fnExactNewTurnsSpec)

end Rows
end Go.Proofs.Ytpnfmbdiffjinaa
