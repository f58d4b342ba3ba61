/-
  No cell of these rows narrows 'for every input' (looked for: loops, veiled, ifaces, maps, wideKeys, modest, calm, conditions, laid).
  DERIVED. THE GIVEN ROWS OF THIS SEAT. 5 by the template 'for every input the law returns true; each argument reads behind the call as it read before'; 0 by the template 'total and deterministic' (their statements: YtkpgfoicmgnkeaaTotals.lean).
  GIVEN WITH THE SEED: the statements are not yours to turn. If you find one false, say at which input.
  Laid BY PROGRAM, IN A SANDBOX (cutbox-rows.mjs): the forced cells as the released guide's own fill.sh prints them over the translation 6a661f88ecce3fc6… (all of the seat's roots in one cut). By AI agents, Wed Nov 11 2026. No macro, syntax, notation, axiom, sorry.
-/
import Derived.Test.YtkpgfoicmgnkeaaChecked
import GoSem.Claim
import GoSem.ClaimJoined
import GoSem.ClaimMapViews
import Derived.JoinedTies
import Derived.KernelRfl
namespace Go.Proofs.Ytkpgfoicmgnkeaa
/- THE CELL 'sum', in the pinned program and in every row, IS THE sha256 OF THE DUMP (.gsa) THAT YtkpgfoicmgnkeaaProg.lean LOADS. Nothing in Lean hashes anything: it is a label: what it is worth is what the hold of that sum in a sandbox is worth. -/
noncomputable def Try.pinned : Pinned := { name := "ytkpgfoicmgnkeaa", sum := "6a661f88ecce3fc6ef9d1ab8711200e728d6847c15de94ef6a1fb6ab53dada7f", checked := Try.checked }
namespace Rows
def none {H : Type} : Left H := { results := [], args := [] }

/-- 'laws.FnSession': WHATEVER THE INPUT: true; the input reads as it did. -/
def fnSessionSpec : ChangeSpec := { name := "fnSession", fn := fun _ => fun
  | [d] => { results := [.lit (.bool true)], args := [d] }
  | _ => none }
def fnSessionRow : OpenClaim := { program := "ytkpgfoicmgnkeaa", sum := "6a661f88ecce3fc6ef9d1ab8711200e728d6847c15de94ef6a1fb6ab53dada7f", func := "loop.example/g00315/laws.FnSession", spec := "fnSession", apart := false }
def FnSessionSaid : Prop := fnSessionRow.holds Try.pinned (OpenSpec.ofChange fnSessionSpec)

/-- ITS FALSE NEIGHBOUR: 'it returns false'. Refute it at one input. -/
def fnSessionWrong : ChangeSpec := { name := "fnSession", fn := fun _ => fun
  | [d] => { results := [.lit (.bool false)], args := [d] }
  | _ => none }
def FnSessionWrongFalsely : Prop := fnSessionRow.holds Try.pinned (OpenSpec.ofChange fnSessionWrong)

/-- 'laws.FnSegments': WHATEVER THE INPUT: true; the input reads as it did. -/
def fnSegmentsSpec : ChangeSpec := { name := "fnSegments", fn := fun _ => fun
  | [d1, d2] => { results := [.lit (.bool true)], args := [d1, d2] }
  | _ => none }
def fnSegmentsRow : OpenClaim := { program := "ytkpgfoicmgnkeaa", sum := "6a661f88ecce3fc6ef9d1ab8711200e728d6847c15de94ef6a1fb6ab53dada7f", func := "loop.example/g00315/laws.FnSegments", spec := "fnSegments", apart := false }
def FnSegmentsSaid : Prop := fnSegmentsRow.holds Try.pinned (OpenSpec.ofChange fnSegmentsSpec)

/-- ITS FALSE NEIGHBOUR: 'it returns false'. Refute it at one input. -/
def fnSegmentsWrong : ChangeSpec := { name := "fnSegments", fn := fun _ => fun
  | [d1, d2] => { results := [.lit (.bool false)], args := [d1, d2] }
  | _ => none }
def FnSegmentsWrongFalsely : Prop := fnSegmentsRow.holds Try.pinned (OpenSpec.ofChange fnSegmentsWrong)

/-- 'laws.FnExactPlaySession': WHATEVER THE INPUT: true; the input reads as it did. -/
def fnExactPlaySessionSpec : ChangeSpec := { name := "fnExactPlaySession", fn := fun _ => fun
  | [d1, d2] => { results := [.lit (.bool true)], args := [d1, d2] }
  | _ => none }
def fnExactPlaySessionRow : OpenClaim := { program := "ytkpgfoicmgnkeaa", sum := "6a661f88ecce3fc6ef9d1ab8711200e728d6847c15de94ef6a1fb6ab53dada7f", func := "loop.example/g00315/laws.FnExactPlaySession", spec := "fnExactPlaySession", apart := false }
def FnExactPlaySessionSaid : Prop := fnExactPlaySessionRow.holds Try.pinned (OpenSpec.ofChange fnExactPlaySessionSpec)

/-- ITS FALSE NEIGHBOUR: 'it returns false'. Refute it at one input. -/
def fnExactPlaySessionWrong : ChangeSpec := { name := "fnExactPlaySession", fn := fun _ => fun
  | [d1, d2] => { results := [.lit (.bool false)], args := [d1, d2] }
  | _ => none }
def FnExactPlaySessionWrongFalsely : Prop := fnExactPlaySessionRow.holds Try.pinned (OpenSpec.ofChange fnExactPlaySessionWrong)

/-- 'laws.FnExactStepSession': WHATEVER THE INPUT: true; the input reads as it did. -/
def fnExactStepSessionSpec : ChangeSpec := { name := "fnExactStepSession", fn := fun _ => fun
  | [d1, d2] => { results := [.lit (.bool true)], args := [d1, d2] }
  | _ => none }
def fnExactStepSessionRow : OpenClaim := { program := "ytkpgfoicmgnkeaa", sum := "6a661f88ecce3fc6ef9d1ab8711200e728d6847c15de94ef6a1fb6ab53dada7f", func := "loop.example/g00315/laws.FnExactStepSession", spec := "fnExactStepSession", apart := false }
def FnExactStepSessionSaid : Prop := fnExactStepSessionRow.holds Try.pinned (OpenSpec.ofChange fnExactStepSessionSpec)

/-- ITS FALSE NEIGHBOUR: 'it returns false'. Refute it at one input. -/
def fnExactStepSessionWrong : ChangeSpec := { name := "fnExactStepSession", fn := fun _ => fun
  | [d1, d2] => { results := [.lit (.bool false)], args := [d1, d2] }
  | _ => none }
def FnExactStepSessionWrongFalsely : Prop := fnExactStepSessionRow.holds Try.pinned (OpenSpec.ofChange fnExactStepSessionWrong)

/-- 'laws.FnExactCalmSession': WHATEVER THE INPUT: true; the input reads as it did. -/
def fnExactCalmSessionSpec : ChangeSpec := { name := "fnExactCalmSession", fn := fun _ => fun
  | [d] => { results := [.lit (.bool true)], args := [d] }
  | _ => none }
def fnExactCalmSessionRow : OpenClaim := { program := "ytkpgfoicmgnkeaa", sum := "6a661f88ecce3fc6ef9d1ab8711200e728d6847c15de94ef6a1fb6ab53dada7f", func := "loop.example/g00315/laws.FnExactCalmSession", spec := "fnExactCalmSession", apart := false }
def FnExactCalmSessionSaid : Prop := fnExactCalmSessionRow.holds Try.pinned (OpenSpec.ofChange fnExactCalmSessionSpec)

/-- ITS FALSE NEIGHBOUR: 'it returns false'. Refute it at one input. -/
def fnExactCalmSessionWrong : ChangeSpec := { name := "fnExactCalmSession", fn := fun _ => fun
  | [d] => { results := [.lit (.bool false)], args := [d] }
  | _ => none }
def FnExactCalmSessionWrongFalsely : Prop := fnExactCalmSessionRow.holds Try.pinned (OpenSpec.ofChange fnExactCalmSessionWrong)

/- THE SECOND FORM. 'bulk': how many values and letters a reading holds, each counted each time it is reached (what is shared counts as often as it is met; a slice's spare places count too). A statement '..UptoSaid' is the law's where the arguments, and the package variables that the reading takes, are together of bulk at most 1048576: NARROWER than '..Said'. Prove '..Said' where nothing that the law and all that it calls make is longer than what came in: it says more and counts as full. Else prove '..UptoSaid'. A law counts once. -/
mutual
def uptoBulk {H : Type} : DataW H → Nat
  | .lit (.string bytes) => bytes.length + 1
  | .lit _ => 1
  | .nil => 1
  | .ptr d => uptoBulk d + 1
  | .slice elems spare => uptoBulkAll elems + uptoBulkAll spare + 1
  | .agg parts => uptoBulkAll parts + 1
  | .iface _ d => uptoBulk d + 1
  | .map entries => uptoBulkEntries entries + 1
  | .held _ => 1
def uptoBulkAll {H : Type} : List (DataW H) → Nat
  | [] => 0
  | d :: r => uptoBulk d + uptoBulkAll r
def uptoBulkEntries {H : Type} : List (Lit × DataW H) → Nat
  | [] => 0
  | x :: r => uptoBulkEntry x + uptoBulkEntries r
def uptoBulkEntry {H : Type} : Lit × DataW H → Nat
  | (.string bytes, d) => bytes.length + uptoBulk d + 1
  | (_, d) => uptoBulk d + 1
 end
def uptoSmall : (H : Type) → List (DataW H) → Bool := fun _ ds => decide (uptoBulkAll ds ≤ 1048576)
def OpenSpec.upto (s : _root_.Go.ChangeSpec) : _root_.Go.OpenSpec := { _root_.Go.OpenSpec.ofChange s with cond := some uptoSmall }

/-- 'laws.FnSession', WHERE WHAT IT READS IS OF BULK AT MOST 1048576: true; the input reads as it did. -/
def fnSessionUptoRow : OpenClaim := { program := "ytkpgfoicmgnkeaa", sum := "6a661f88ecce3fc6ef9d1ab8711200e728d6847c15de94ef6a1fb6ab53dada7f", func := "loop.example/g00315/laws.FnSession", spec := "fnSession", apart := false, narrowed := true }
def FnSessionUptoSaid : Prop := fnSessionUptoRow.holds Try.pinned (OpenSpec.upto fnSessionSpec)

/-- 'laws.FnSegments', WHERE WHAT IT READS IS OF BULK AT MOST 1048576: true; the input reads as it did. -/
def fnSegmentsUptoRow : OpenClaim := { program := "ytkpgfoicmgnkeaa", sum := "6a661f88ecce3fc6ef9d1ab8711200e728d6847c15de94ef6a1fb6ab53dada7f", func := "loop.example/g00315/laws.FnSegments", spec := "fnSegments", apart := false, narrowed := true }
def FnSegmentsUptoSaid : Prop := fnSegmentsUptoRow.holds Try.pinned (OpenSpec.upto fnSegmentsSpec)

/-- 'laws.FnExactPlaySession', WHERE WHAT IT READS IS OF BULK AT MOST 1048576: true; the input reads as it did. -/
def fnExactPlaySessionUptoRow : OpenClaim := { program := "ytkpgfoicmgnkeaa", sum := "6a661f88ecce3fc6ef9d1ab8711200e728d6847c15de94ef6a1fb6ab53dada7f", func := "loop.example/g00315/laws.FnExactPlaySession", spec := "fnExactPlaySession", apart := false, narrowed := true }
def FnExactPlaySessionUptoSaid : Prop := fnExactPlaySessionUptoRow.holds Try.pinned (OpenSpec.upto fnExactPlaySessionSpec)

/-- 'laws.FnExactStepSession', WHERE WHAT IT READS IS OF BULK AT MOST 1048576: true; the input reads as it did. -/
def fnExactStepSessionUptoRow : OpenClaim := { program := "ytkpgfoicmgnkeaa", sum := "6a661f88ecce3fc6ef9d1ab8711200e728d6847c15de94ef6a1fb6ab53dada7f", func := "loop.example/g00315/laws.FnExactStepSession", spec := "fnExactStepSession", apart := false, narrowed := true }
def FnExactStepSessionUptoSaid : Prop := fnExactStepSessionUptoRow.holds Try.pinned (OpenSpec.upto fnExactStepSessionSpec)

/-- 'laws.FnExactCalmSession', WHERE WHAT IT READS IS OF BULK AT MOST 1048576: true; the input reads as it did. -/
def fnExactCalmSessionUptoRow : OpenClaim := { program := "ytkpgfoicmgnkeaa", sum := "6a661f88ecce3fc6ef9d1ab8711200e728d6847c15de94ef6a1fb6ab53dada7f", func := "loop.example/g00315/laws.FnExactCalmSession", spec := "fnExactCalmSession", apart := false, narrowed := true }
def FnExactCalmSessionUptoSaid : Prop := fnExactCalmSessionUptoRow.holds Try.pinned (OpenSpec.upto fnExactCalmSessionSpec)

end Rows
end Go.Proofs.Ytkpgfoicmgnkeaa
