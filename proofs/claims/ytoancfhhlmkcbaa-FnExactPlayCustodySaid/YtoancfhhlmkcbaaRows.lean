/-
  No cell of these rows narrows 'for every input' (looked for: loops, veiled, ifaces, maps, wideKeys, modest, calm, conditions, laid).
  DERIVED. THE GIVEN ROWS OF THIS SEAT. 4 by the template 'for every input the law returns true; each argument reads behind the call as it read before'; 0 by the template 'total and deterministic' (their statements: YtoancfhhlmkcbaaTotals.lean).
  GIVEN WITH THE SEED: the statements are not yours to turn. If you find one false, say at which input.
  Laid BY PROGRAM, IN A SANDBOX (cutbox-rows.mjs): the forced cells as the released guide's own fill.sh prints them over the translation 0e66327310d83ac9… (all of the seat's roots in one cut). By AI agents, Wed Nov 11 2026. No macro, syntax, notation, axiom, sorry.
-/
import Derived.Test.YtoancfhhlmkcbaaChecked
import GoSem.Claim
import GoSem.ClaimJoined
import GoSem.ClaimMapViews
import Derived.JoinedTies
import Derived.KernelRfl
namespace Go.Proofs.Ytoancfhhlmkcbaa
/- THE CELL 'sum', in the pinned program and in every row, IS THE sha256 OF THE DUMP (.gsa) THAT YtoancfhhlmkcbaaProg.lean LOADS. Nothing in Lean hashes anything: it is a label: what it is worth is what the hold of that sum in a sandbox is worth. -/
noncomputable def Try.pinned : Pinned := { name := "ytoancfhhlmkcbaa", sum := "0e66327310d83ac950ae1f7ecbcbcc3d497b055cfec7c048347f4db7de083f50", checked := Try.checked }
namespace Rows
def none {H : Type} : Left H := { results := [], args := [] }

/-- 'laws.FnExactGoodCustody': WHATEVER THE INPUT: true; the input reads as it did. -/
def fnExactGoodCustodySpec : ChangeSpec := { name := "fnExactGoodCustody", fn := fun _ => fun
  | [d] => { results := [.lit (.bool true)], args := [d] }
  | _ => none }
def fnExactGoodCustodyRow : OpenClaim := { program := "ytoancfhhlmkcbaa", sum := "0e66327310d83ac950ae1f7ecbcbcc3d497b055cfec7c048347f4db7de083f50", func := "loop.example/g00315/laws.FnExactGoodCustody", spec := "fnExactGoodCustody", unfollowed := true, recurses := true, apart := false }
def FnExactGoodCustodySaid : Prop := fnExactGoodCustodyRow.holds Try.pinned (OpenSpec.ofChange fnExactGoodCustodySpec)

/-- ITS FALSE NEIGHBOUR: 'it returns false'. Refute it at one input. -/
def fnExactGoodCustodyWrong : ChangeSpec := { name := "fnExactGoodCustody", fn := fun _ => fun
  | [d] => { results := [.lit (.bool false)], args := [d] }
  | _ => none }
def FnExactGoodCustodyWrongFalsely : Prop := fnExactGoodCustodyRow.holds Try.pinned (OpenSpec.ofChange fnExactGoodCustodyWrong)

/-- 'laws.FnExactSafeFor': WHATEVER THE INPUT: true; the input reads as it did. -/
def fnExactSafeForSpec : ChangeSpec := { name := "fnExactSafeFor", fn := fun _ => fun
  | [d1, d2, d3] => { results := [.lit (.bool true)], args := [d1, d2, d3] }
  | _ => none }
def fnExactSafeForRow : OpenClaim := { program := "ytoancfhhlmkcbaa", sum := "0e66327310d83ac950ae1f7ecbcbcc3d497b055cfec7c048347f4db7de083f50", func := "loop.example/g00315/laws.FnExactSafeFor", spec := "fnExactSafeFor", unfollowed := true, recurses := true, apart := false }
def FnExactSafeForSaid : Prop := fnExactSafeForRow.holds Try.pinned (OpenSpec.ofChange fnExactSafeForSpec)

/-- ITS FALSE NEIGHBOUR: 'it returns false'. Refute it at one input. -/
def fnExactSafeForWrong : ChangeSpec := { name := "fnExactSafeFor", fn := fun _ => fun
  | [d1, d2, d3] => { results := [.lit (.bool false)], args := [d1, d2, d3] }
  | _ => none }
def FnExactSafeForWrongFalsely : Prop := fnExactSafeForRow.holds Try.pinned (OpenSpec.ofChange fnExactSafeForWrong)

/-- 'laws.FnCustody': WHATEVER THE INPUT: true; the input reads as it did. -/
def fnCustodySpec : ChangeSpec := { name := "fnCustody", fn := fun _ => fun
  | [d] => { results := [.lit (.bool true)], args := [d] }
  | _ => none }
def fnCustodyRow : OpenClaim := { program := "ytoancfhhlmkcbaa", sum := "0e66327310d83ac950ae1f7ecbcbcc3d497b055cfec7c048347f4db7de083f50", func := "loop.example/g00315/laws.FnCustody", spec := "fnCustody", unfollowed := true, recurses := true, apart := false }
def FnCustodySaid : Prop := fnCustodyRow.holds Try.pinned (OpenSpec.ofChange fnCustodySpec)

/-- ITS FALSE NEIGHBOUR: 'it returns false'. Refute it at one input. -/
def fnCustodyWrong : ChangeSpec := { name := "fnCustody", fn := fun _ => fun
  | [d] => { results := [.lit (.bool false)], args := [d] }
  | _ => none }
def FnCustodyWrongFalsely : Prop := fnCustodyRow.holds Try.pinned (OpenSpec.ofChange fnCustodyWrong)

/-- 'laws.FnExactPlayCustody': WHATEVER THE INPUT: true; the input reads as it did. -/
def fnExactPlayCustodySpec : ChangeSpec := { name := "fnExactPlayCustody", fn := fun _ => fun
  | [d1, d2] => { results := [.lit (.bool true)], args := [d1, d2] }
  | _ => none }
def fnExactPlayCustodyRow : OpenClaim := { program := "ytoancfhhlmkcbaa", sum := "0e66327310d83ac950ae1f7ecbcbcc3d497b055cfec7c048347f4db7de083f50", func := "loop.example/g00315/laws.FnExactPlayCustody", spec := "fnExactPlayCustody", unfollowed := true, recurses := true, apart := false }
def FnExactPlayCustodySaid : Prop := fnExactPlayCustodyRow.holds Try.pinned (OpenSpec.ofChange fnExactPlayCustodySpec)

/-- ITS FALSE NEIGHBOUR: 'it returns false'. Refute it at one input. -/
def fnExactPlayCustodyWrong : ChangeSpec := { name := "fnExactPlayCustody", fn := fun _ => fun
  | [d1, d2] => { results := [.lit (.bool false)], args := [d1, d2] }
  | _ => none }
def FnExactPlayCustodyWrongFalsely : Prop := fnExactPlayCustodyRow.holds Try.pinned (OpenSpec.ofChange fnExactPlayCustodyWrong)

/- THE SECOND FORM. 'bulk': how many values and letters a reading holds, each counted each time it is reached (what is shared counts as often as it is met; a slice's spare places count too). A statement '..UptoSaid' is the law's where the arguments, and the package variables that the reading takes, are together of bulk at most 1048576: NARROWER than '..Said'. Prove '..Said' where nothing that the law and all that it calls make is longer than what came in: it says more and counts as full. Else prove '..UptoSaid'. A law counts once. -/
mutual
def uptoBulk {H : Type} : DataW H → Nat
  | .lit (.string bytes) => bytes.length + 1
  | .lit _ => 1
  | .nil => 1
  | .ptr d => uptoBulk d + 1
  | .slice elems spare => uptoBulkAll elems + uptoBulkAll spare + 1
  | .agg parts => uptoBulkAll parts + 1
  | .iface _ d => uptoBulk d + 1
  | .map entries => uptoBulkEntries entries + 1
  | .held _ => 1
def uptoBulkAll {H : Type} : List (DataW H) → Nat
  | [] => 0
  | d :: r => uptoBulk d + uptoBulkAll r
def uptoBulkEntries {H : Type} : List (Lit × DataW H) → Nat
  | [] => 0
  | x :: r => uptoBulkEntry x + uptoBulkEntries r
def uptoBulkEntry {H : Type} : Lit × DataW H → Nat
  | (.string bytes, d) => bytes.length + uptoBulk d + 1
  | (_, d) => uptoBulk d + 1
 end
def uptoSmall : (H : Type) → List (DataW H) → Bool := fun _ ds => decide (uptoBulkAll ds ≤ 1048576)
def OpenSpec.upto (s : _root_.Go.ChangeSpec) : _root_.Go.OpenSpec := { _root_.Go.OpenSpec.ofChange s with cond := some uptoSmall }

/-- 'laws.FnExactGoodCustody', WHERE WHAT IT READS IS OF BULK AT MOST 1048576: true; the input reads as it did. -/
def fnExactGoodCustodyUptoRow : OpenClaim := { program := "ytoancfhhlmkcbaa", sum := "0e66327310d83ac950ae1f7ecbcbcc3d497b055cfec7c048347f4db7de083f50", func := "loop.example/g00315/laws.FnExactGoodCustody", spec := "fnExactGoodCustody", unfollowed := true, recurses := true, apart := false, narrowed := true }
def FnExactGoodCustodyUptoSaid : Prop := fnExactGoodCustodyUptoRow.holds Try.pinned (OpenSpec.upto fnExactGoodCustodySpec)

/-- 'laws.FnExactSafeFor', WHERE WHAT IT READS IS OF BULK AT MOST 1048576: true; the input reads as it did. -/
def fnExactSafeForUptoRow : OpenClaim := { program := "ytoancfhhlmkcbaa", sum := "0e66327310d83ac950ae1f7ecbcbcc3d497b055cfec7c048347f4db7de083f50", func := "loop.example/g00315/laws.FnExactSafeFor", spec := "fnExactSafeFor", unfollowed := true, recurses := true, apart := false, narrowed := true }
def FnExactSafeForUptoSaid : Prop := fnExactSafeForUptoRow.holds Try.pinned (OpenSpec.upto fnExactSafeForSpec)

/-- 'laws.FnCustody', WHERE WHAT IT READS IS OF BULK AT MOST 1048576: true; the input reads as it did. -/
def fnCustodyUptoRow : OpenClaim := { program := "ytoancfhhlmkcbaa", sum := "0e66327310d83ac950ae1f7ecbcbcc3d497b055cfec7c048347f4db7de083f50", func := "loop.example/g00315/laws.FnCustody", spec := "fnCustody", unfollowed := true, recurses := true, apart := false, narrowed := true }
def FnCustodyUptoSaid : Prop := fnCustodyUptoRow.holds Try.pinned (OpenSpec.upto fnCustodySpec)

/-- 'laws.FnExactPlayCustody', WHERE WHAT IT READS IS OF BULK AT MOST 1048576: true; the input reads as it did. -/
def fnExactPlayCustodyUptoRow : OpenClaim := { program := "ytoancfhhlmkcbaa", sum := "0e66327310d83ac950ae1f7ecbcbcc3d497b055cfec7c048347f4db7de083f50", func := "loop.example/g00315/laws.FnExactPlayCustody", spec := "fnExactPlayCustody", unfollowed := true, recurses := true, apart := false, narrowed := true }
def FnExactPlayCustodyUptoSaid : Prop := fnExactPlayCustodyUptoRow.holds Try.pinned (OpenSpec.upto fnExactPlayCustodySpec)

end Rows
end Go.Proofs.Ytoancfhhlmkcbaa
