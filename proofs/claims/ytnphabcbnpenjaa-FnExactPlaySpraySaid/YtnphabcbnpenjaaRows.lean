/-
  No cell of these rows narrows 'for every input' (looked for: loops, veiled, ifaces, maps, wideKeys, modest, calm, conditions, laid).
  DERIVED. THE GIVEN ROWS OF THIS SEAT. 12 by the template 'for every input the law returns true; each argument reads behind the call as it read before'; 0 by the template 'total and deterministic' (their statements: YtnphabcbnpenjaaTotals.lean).
  GIVEN WITH THE SEED: the statements are not yours to turn. If you find one false, say at which input.
  Laid BY PROGRAM, IN A SANDBOX (cutbox-rows.mjs): the forced cells as the released guide's own fill.sh prints them over the translation 17e99836b46a5b6b… (all of the seat's roots in one cut). By AI agents, Wed Nov 11 2026. No macro, syntax, notation, axiom, sorry.
-/
import Derived.Test.YtnphabcbnpenjaaChecked
import GoSem.Claim
import GoSem.ClaimJoined
import GoSem.ClaimMapViews
import Derived.JoinedTies
import Derived.KernelRfl
namespace Go.Proofs.Ytnphabcbnpenjaa
/- THE CELL 'sum', in the pinned program and in every row, IS THE sha256 OF THE DUMP (.gsa) THAT YtnphabcbnpenjaaProg.lean LOADS. Nothing in Lean hashes anything: it is a label: what it is worth is what the hold of that sum in a sandbox is worth. -/
noncomputable def Try.pinned : Pinned := { name := "ytnphabcbnpenjaa", sum := "17e99836b46a5b6b145b4221ba2bb649c24e1eeee6e1797feaf49f9fcbfc2f1d", checked := Try.checked }
namespace Rows
def none {H : Type} : Left H := { results := [], args := [] }

/-- 'laws.FnExactGoodTurns': WHATEVER THE INPUT: true; the input reads as it did. -/
def fnExactGoodTurnsSpec : ChangeSpec := { name := "fnExactGoodTurns", fn := fun _ => fun
  | [d] => { results := [.lit (.bool true)], args := [d] }
  | _ => none }
def fnExactGoodTurnsRow : OpenClaim := { program := "ytnphabcbnpenjaa", sum := "17e99836b46a5b6b145b4221ba2bb649c24e1eeee6e1797feaf49f9fcbfc2f1d", func := "loop.example/g00315/laws.FnExactGoodTurns", spec := "fnExactGoodTurns", unfollowed := true, recurses := true, apart := false }
def FnExactGoodTurnsSaid : Prop := fnExactGoodTurnsRow.holds Try.pinned (OpenSpec.ofChange fnExactGoodTurnsSpec)

/-- ITS FALSE NEIGHBOUR: 'it returns false'. Refute it at one input. -/
def fnExactGoodTurnsWrong : ChangeSpec := { name := "fnExactGoodTurns", fn := fun _ => fun
  | [d] => { results := [.lit (.bool false)], args := [d] }
  | _ => none }
def FnExactGoodTurnsWrongFalsely : Prop := fnExactGoodTurnsRow.holds Try.pinned (OpenSpec.ofChange fnExactGoodTurnsWrong)

/-- 'laws.FnExactCarriersIn': WHATEVER THE INPUT: true; the input reads as it did. -/
def fnExactCarriersInSpec : ChangeSpec := { name := "fnExactCarriersIn", fn := fun _ => fun
  | [d] => { results := [.lit (.bool true)], args := [d] }
  | _ => none }
def fnExactCarriersInRow : OpenClaim := { program := "ytnphabcbnpenjaa", sum := "17e99836b46a5b6b145b4221ba2bb649c24e1eeee6e1797feaf49f9fcbfc2f1d", func := "loop.example/g00315/laws.FnExactCarriersIn", spec := "fnExactCarriersIn", unfollowed := true, recurses := true, apart := false }
def FnExactCarriersInSaid : Prop := fnExactCarriersInRow.holds Try.pinned (OpenSpec.ofChange fnExactCarriersInSpec)

/-- ITS FALSE NEIGHBOUR: 'it returns false'. Refute it at one input. -/
def fnExactCarriersInWrong : ChangeSpec := { name := "fnExactCarriersIn", fn := fun _ => fun
  | [d] => { results := [.lit (.bool false)], args := [d] }
  | _ => none }
def FnExactCarriersInWrongFalsely : Prop := fnExactCarriersInRow.holds Try.pinned (OpenSpec.ofChange fnExactCarriersInWrong)

/-- 'laws.FnExactBothTell': WHATEVER THE INPUT: true; the input reads as it did. -/
def fnExactBothTellSpec : ChangeSpec := { name := "fnExactBothTell", fn := fun _ => fun
  | [d1, d2, d3] => { results := [.lit (.bool true)], args := [d1, d2, d3] }
  | _ => none }
def fnExactBothTellRow : OpenClaim := { program := "ytnphabcbnpenjaa", sum := "17e99836b46a5b6b145b4221ba2bb649c24e1eeee6e1797feaf49f9fcbfc2f1d", func := "loop.example/g00315/laws.FnExactBothTell", spec := "fnExactBothTell", apart := false }
def FnExactBothTellSaid : Prop := fnExactBothTellRow.holds Try.pinned (OpenSpec.ofChange fnExactBothTellSpec)

/-- ITS FALSE NEIGHBOUR: 'it returns false'. Refute it at one input. -/
def fnExactBothTellWrong : ChangeSpec := { name := "fnExactBothTell", fn := fun _ => fun
  | [d1, d2, d3] => { results := [.lit (.bool false)], args := [d1, d2, d3] }
  | _ => none }
def FnExactBothTellWrongFalsely : Prop := fnExactBothTellRow.holds Try.pinned (OpenSpec.ofChange fnExactBothTellWrong)

/-- 'laws.FnExactWaitingIn': WHATEVER THE INPUT: true; the input reads as it did. -/
def fnExactWaitingInSpec : ChangeSpec := { name := "fnExactWaitingIn", fn := fun _ => fun
  | [d1, d2] => { results := [.lit (.bool true)], args := [d1, d2] }
  | _ => none }
def fnExactWaitingInRow : OpenClaim := { program := "ytnphabcbnpenjaa", sum := "17e99836b46a5b6b145b4221ba2bb649c24e1eeee6e1797feaf49f9fcbfc2f1d", func := "loop.example/g00315/laws.FnExactWaitingIn", spec := "fnExactWaitingIn", unfollowed := true, recurses := true, apart := false }
def FnExactWaitingInSaid : Prop := fnExactWaitingInRow.holds Try.pinned (OpenSpec.ofChange fnExactWaitingInSpec)

/-- ITS FALSE NEIGHBOUR: 'it returns false'. Refute it at one input. -/
def fnExactWaitingInWrong : ChangeSpec := { name := "fnExactWaitingIn", fn := fun _ => fun
  | [d1, d2] => { results := [.lit (.bool false)], args := [d1, d2] }
  | _ => none }
def FnExactWaitingInWrongFalsely : Prop := fnExactWaitingInRow.holds Try.pinned (OpenSpec.ofChange fnExactWaitingInWrong)

/-- 'laws.FnExactMeetBoth': WHATEVER THE INPUT: true; the input reads as it did. -/
def fnExactMeetBothSpec : ChangeSpec := { name := "fnExactMeetBoth", fn := fun _ => fun
  | [d1, d2] => { results := [.lit (.bool true)], args := [d1, d2] }
  | _ => none }
def fnExactMeetBothRow : OpenClaim := { program := "ytnphabcbnpenjaa", sum := "17e99836b46a5b6b145b4221ba2bb649c24e1eeee6e1797feaf49f9fcbfc2f1d", func := "loop.example/g00315/laws.FnExactMeetBoth", spec := "fnExactMeetBoth", unfollowed := true, recurses := true, apart := false }
def FnExactMeetBothSaid : Prop := fnExactMeetBothRow.holds Try.pinned (OpenSpec.ofChange fnExactMeetBothSpec)

/-- ITS FALSE NEIGHBOUR: 'it returns false'. Refute it at one input. -/
def fnExactMeetBothWrong : ChangeSpec := { name := "fnExactMeetBoth", fn := fun _ => fun
  | [d1, d2] => { results := [.lit (.bool false)], args := [d1, d2] }
  | _ => none }
def FnExactMeetBothWrongFalsely : Prop := fnExactMeetBothRow.holds Try.pinned (OpenSpec.ofChange fnExactMeetBothWrong)

/-- 'laws.FnMost': WHATEVER THE INPUT: true; the input reads as it did. -/
def fnMostSpec : ChangeSpec := { name := "fnMost", fn := fun _ => fun
  | [d1, d2] => { results := [.lit (.bool true)], args := [d1, d2] }
  | _ => none }
def fnMostRow : OpenClaim := { program := "ytnphabcbnpenjaa", sum := "17e99836b46a5b6b145b4221ba2bb649c24e1eeee6e1797feaf49f9fcbfc2f1d", func := "loop.example/g00315/laws.FnMost", spec := "fnMost", apart := false }
def FnMostSaid : Prop := fnMostRow.holds Try.pinned (OpenSpec.ofChange fnMostSpec)

/-- ITS FALSE NEIGHBOUR: 'it returns false'. Refute it at one input. -/
def fnMostWrong : ChangeSpec := { name := "fnMost", fn := fun _ => fun
  | [d1, d2] => { results := [.lit (.bool false)], args := [d1, d2] }
  | _ => none }
def FnMostWrongFalsely : Prop := fnMostRow.holds Try.pinned (OpenSpec.ofChange fnMostWrong)

/-- 'laws.FnSdnv': WHATEVER THE INPUT: true; the input reads as it did. -/
def fnSdnvSpec : ChangeSpec := { name := "fnSdnv", fn := fun _ => fun
  | [d1, d2] => { results := [.lit (.bool true)], args := [d1, d2] }
  | _ => none }
def fnSdnvRow : OpenClaim := { program := "ytnphabcbnpenjaa", sum := "17e99836b46a5b6b145b4221ba2bb649c24e1eeee6e1797feaf49f9fcbfc2f1d", func := "loop.example/g00315/laws.FnSdnv", spec := "fnSdnv", apart := false }
def FnSdnvSaid : Prop := fnSdnvRow.holds Try.pinned (OpenSpec.ofChange fnSdnvSpec)

/-- ITS FALSE NEIGHBOUR: 'it returns false'. Refute it at one input. -/
def fnSdnvWrong : ChangeSpec := { name := "fnSdnv", fn := fun _ => fun
  | [d1, d2] => { results := [.lit (.bool false)], args := [d1, d2] }
  | _ => none }
def FnSdnvWrongFalsely : Prop := fnSdnvRow.holds Try.pinned (OpenSpec.ofChange fnSdnvWrong)

/-- 'laws.FnGcra': WHATEVER THE INPUT: true; the input reads as it did. -/
def fnGcraSpec : ChangeSpec := { name := "fnGcra", fn := fun _ => fun
  | [d1, d2] => { results := [.lit (.bool true)], args := [d1, d2] }
  | _ => none }
def fnGcraRow : OpenClaim := { program := "ytnphabcbnpenjaa", sum := "17e99836b46a5b6b145b4221ba2bb649c24e1eeee6e1797feaf49f9fcbfc2f1d", func := "loop.example/g00315/laws.FnGcra", spec := "fnGcra", apart := false }
def FnGcraSaid : Prop := fnGcraRow.holds Try.pinned (OpenSpec.ofChange fnGcraSpec)

/-- ITS FALSE NEIGHBOUR: 'it returns false'. Refute it at one input. -/
def fnGcraWrong : ChangeSpec := { name := "fnGcra", fn := fun _ => fun
  | [d1, d2] => { results := [.lit (.bool false)], args := [d1, d2] }
  | _ => none }
def FnGcraWrongFalsely : Prop := fnGcraRow.holds Try.pinned (OpenSpec.ofChange fnGcraWrong)

/-- 'laws.FnExactPlaySpray': WHATEVER THE INPUT: true; the input reads as it did. -/
def fnExactPlaySpraySpec : ChangeSpec := { name := "fnExactPlaySpray", fn := fun _ => fun
  | [d1, d2, d3, d4, d5] => { results := [.lit (.bool true)], args := [d1, d2, d3, d4, d5] }
  | _ => none }
def fnExactPlaySprayRow : OpenClaim := { program := "ytnphabcbnpenjaa", sum := "17e99836b46a5b6b145b4221ba2bb649c24e1eeee6e1797feaf49f9fcbfc2f1d", func := "loop.example/g00315/laws.FnExactPlaySpray", spec := "fnExactPlaySpray", unfollowed := true, recurses := true, apart := false }
def FnExactPlaySpraySaid : Prop := fnExactPlaySprayRow.holds Try.pinned (OpenSpec.ofChange fnExactPlaySpraySpec)

/-- ITS FALSE NEIGHBOUR: 'it returns false'. Refute it at one input. -/
def fnExactPlaySprayWrong : ChangeSpec := { name := "fnExactPlaySpray", fn := fun _ => fun
  | [d1, d2, d3, d4, d5] => { results := [.lit (.bool false)], args := [d1, d2, d3, d4, d5] }
  | _ => none }
def FnExactPlaySprayWrongFalsely : Prop := fnExactPlaySprayRow.holds Try.pinned (OpenSpec.ofChange fnExactPlaySprayWrong)

/-- 'laws.FnTurns': WHATEVER THE INPUT: true; the input reads as it did. -/
def fnTurnsSpec : ChangeSpec := { name := "fnTurns", fn := fun _ => fun
  | [d1, d2] => { results := [.lit (.bool true)], args := [d1, d2] }
  | _ => none }
def fnTurnsRow : OpenClaim := { program := "ytnphabcbnpenjaa", sum := "17e99836b46a5b6b145b4221ba2bb649c24e1eeee6e1797feaf49f9fcbfc2f1d", func := "loop.example/g00315/laws.FnTurns", spec := "fnTurns", unfollowed := true, recurses := true, apart := false }
def FnTurnsSaid : Prop := fnTurnsRow.holds Try.pinned (OpenSpec.ofChange fnTurnsSpec)

/-- ITS FALSE NEIGHBOUR: 'it returns false'. Refute it at one input. -/
def fnTurnsWrong : ChangeSpec := { name := "fnTurns", fn := fun _ => fun
  | [d1, d2] => { results := [.lit (.bool false)], args := [d1, d2] }
  | _ => none }
def FnTurnsWrongFalsely : Prop := fnTurnsRow.holds Try.pinned (OpenSpec.ofChange fnTurnsWrong)

/-- 'laws.FnFlood': WHATEVER THE INPUT: true; the input reads as it did. -/
def fnFloodSpec : ChangeSpec := { name := "fnFlood", fn := fun _ => fun
  | [d] => { results := [.lit (.bool true)], args := [d] }
  | _ => none }
def fnFloodRow : OpenClaim := { program := "ytnphabcbnpenjaa", sum := "17e99836b46a5b6b145b4221ba2bb649c24e1eeee6e1797feaf49f9fcbfc2f1d", func := "loop.example/g00315/laws.FnFlood", spec := "fnFlood", unfollowed := true, recurses := true, apart := false }
def FnFloodSaid : Prop := fnFloodRow.holds Try.pinned (OpenSpec.ofChange fnFloodSpec)

/-- ITS FALSE NEIGHBOUR: 'it returns false'. Refute it at one input. -/
def fnFloodWrong : ChangeSpec := { name := "fnFlood", fn := fun _ => fun
  | [d] => { results := [.lit (.bool false)], args := [d] }
  | _ => none }
def FnFloodWrongFalsely : Prop := fnFloodRow.holds Try.pinned (OpenSpec.ofChange fnFloodWrong)

/-- 'laws.FnFair': WHATEVER THE INPUT: true; the input reads as it did. -/
def fnFairSpec : ChangeSpec := { name := "fnFair", fn := fun _ => fun
  | [d] => { results := [.lit (.bool true)], args := [d] }
  | _ => none }
def fnFairRow : OpenClaim := { program := "ytnphabcbnpenjaa", sum := "17e99836b46a5b6b145b4221ba2bb649c24e1eeee6e1797feaf49f9fcbfc2f1d", func := "loop.example/g00315/laws.FnFair", spec := "fnFair", unfollowed := true, recurses := true, apart := false }
def FnFairSaid : Prop := fnFairRow.holds Try.pinned (OpenSpec.ofChange fnFairSpec)

/-- ITS FALSE NEIGHBOUR: 'it returns false'. Refute it at one input. -/
def fnFairWrong : ChangeSpec := { name := "fnFair", fn := fun _ => fun
  | [d] => { results := [.lit (.bool false)], args := [d] }
  | _ => none }
def FnFairWrongFalsely : Prop := fnFairRow.holds Try.pinned (OpenSpec.ofChange fnFairWrong)

/- THE SECOND FORM. 'bulk': how many values and letters a reading holds, each counted each time it is reached (what is shared counts as often as it is met; a slice's spare places count too). A statement '..UptoSaid' is the law's where the arguments, and the package variables that the reading takes, are together of bulk at most 1048576: NARROWER than '..Said'. Prove '..Said' where nothing that the law and all that it calls make is longer than what came in: it says more and counts as full. Else prove '..UptoSaid'. A law counts once. -/
mutual
def uptoBulk {H : Type} : DataW H → Nat
  | .lit (.string bytes) => bytes.length + 1
  | .lit _ => 1
  | .nil => 1
  | .ptr d => uptoBulk d + 1
  | .slice elems spare => uptoBulkAll elems + uptoBulkAll spare + 1
  | .agg parts => uptoBulkAll parts + 1
  | .iface _ d => uptoBulk d + 1
  | .map entries => uptoBulkEntries entries + 1
  | .held _ => 1
def uptoBulkAll {H : Type} : List (DataW H) → Nat
  | [] => 0
  | d :: r => uptoBulk d + uptoBulkAll r
def uptoBulkEntries {H : Type} : List (Lit × DataW H) → Nat
  | [] => 0
  | x :: r => uptoBulkEntry x + uptoBulkEntries r
def uptoBulkEntry {H : Type} : Lit × DataW H → Nat
  | (.string bytes, d) => bytes.length + uptoBulk d + 1
  | (_, d) => uptoBulk d + 1
 end
def uptoSmall : (H : Type) → List (DataW H) → Bool := fun _ ds => decide (uptoBulkAll ds ≤ 1048576)
def OpenSpec.upto (s : _root_.Go.ChangeSpec) : _root_.Go.OpenSpec := { _root_.Go.OpenSpec.ofChange s with cond := some uptoSmall }

/-- 'laws.FnExactGoodTurns', WHERE WHAT IT READS IS OF BULK AT MOST 1048576: true; the input reads as it did. -/
def fnExactGoodTurnsUptoRow : OpenClaim := { program := "ytnphabcbnpenjaa", sum := "17e99836b46a5b6b145b4221ba2bb649c24e1eeee6e1797feaf49f9fcbfc2f1d", func := "loop.example/g00315/laws.FnExactGoodTurns", spec := "fnExactGoodTurns", unfollowed := true, recurses := true, apart := false, narrowed := true }
def FnExactGoodTurnsUptoSaid : Prop := fnExactGoodTurnsUptoRow.holds Try.pinned (OpenSpec.upto fnExactGoodTurnsSpec)

/-- 'laws.FnExactCarriersIn', WHERE WHAT IT READS IS OF BULK AT MOST 1048576: true; the input reads as it did. -/
def fnExactCarriersInUptoRow : OpenClaim := { program := "ytnphabcbnpenjaa", sum := "17e99836b46a5b6b145b4221ba2bb649c24e1eeee6e1797feaf49f9fcbfc2f1d", func := "loop.example/g00315/laws.FnExactCarriersIn", spec := "fnExactCarriersIn", unfollowed := true, recurses := true, apart := false, narrowed := true }
def FnExactCarriersInUptoSaid : Prop := fnExactCarriersInUptoRow.holds Try.pinned (OpenSpec.upto fnExactCarriersInSpec)

/-- 'laws.FnExactBothTell', WHERE WHAT IT READS IS OF BULK AT MOST 1048576: true; the input reads as it did. -/
def fnExactBothTellUptoRow : OpenClaim := { program := "ytnphabcbnpenjaa", sum := "17e99836b46a5b6b145b4221ba2bb649c24e1eeee6e1797feaf49f9fcbfc2f1d", func := "loop.example/g00315/laws.FnExactBothTell", spec := "fnExactBothTell", apart := false, narrowed := true }
def FnExactBothTellUptoSaid : Prop := fnExactBothTellUptoRow.holds Try.pinned (OpenSpec.upto fnExactBothTellSpec)

/-- 'laws.FnExactWaitingIn', WHERE WHAT IT READS IS OF BULK AT MOST 1048576: true; the input reads as it did. -/
def fnExactWaitingInUptoRow : OpenClaim := { program := "ytnphabcbnpenjaa", sum := "17e99836b46a5b6b145b4221ba2bb649c24e1eeee6e1797feaf49f9fcbfc2f1d", func := "loop.example/g00315/laws.FnExactWaitingIn", spec := "fnExactWaitingIn", unfollowed := true, recurses := true, apart := false, narrowed := true }
def FnExactWaitingInUptoSaid : Prop := fnExactWaitingInUptoRow.holds Try.pinned (OpenSpec.upto fnExactWaitingInSpec)

/-- 'laws.FnExactMeetBoth', WHERE WHAT IT READS IS OF BULK AT MOST 1048576: true; the input reads as it did. -/
def fnExactMeetBothUptoRow : OpenClaim := { program := "ytnphabcbnpenjaa", sum := "17e99836b46a5b6b145b4221ba2bb649c24e1eeee6e1797feaf49f9fcbfc2f1d", func := "loop.example/g00315/laws.FnExactMeetBoth", spec := "fnExactMeetBoth", unfollowed := true, recurses := true, apart := false, narrowed := true }
def FnExactMeetBothUptoSaid : Prop := fnExactMeetBothUptoRow.holds Try.pinned (OpenSpec.upto fnExactMeetBothSpec)

/-- 'laws.FnMost', WHERE WHAT IT READS IS OF BULK AT MOST 1048576: true; the input reads as it did. -/
def fnMostUptoRow : OpenClaim := { program := "ytnphabcbnpenjaa", sum := "17e99836b46a5b6b145b4221ba2bb649c24e1eeee6e1797feaf49f9fcbfc2f1d", func := "loop.example/g00315/laws.FnMost", spec := "fnMost", apart := false, narrowed := true }
def FnMostUptoSaid : Prop := fnMostUptoRow.holds Try.pinned (OpenSpec.upto fnMostSpec)

/-- 'laws.FnSdnv', WHERE WHAT IT READS IS OF BULK AT MOST 1048576: true; the input reads as it did. -/
def fnSdnvUptoRow : OpenClaim := { program := "ytnphabcbnpenjaa", sum := "17e99836b46a5b6b145b4221ba2bb649c24e1eeee6e1797feaf49f9fcbfc2f1d", func := "loop.example/g00315/laws.FnSdnv", spec := "fnSdnv", apart := false, narrowed := true }
def FnSdnvUptoSaid : Prop := fnSdnvUptoRow.holds Try.pinned (OpenSpec.upto fnSdnvSpec)

/-- 'laws.FnGcra', WHERE WHAT IT READS IS OF BULK AT MOST 1048576: true; the input reads as it did. -/
def fnGcraUptoRow : OpenClaim := { program := "ytnphabcbnpenjaa", sum := "17e99836b46a5b6b145b4221ba2bb649c24e1eeee6e1797feaf49f9fcbfc2f1d", func := "loop.example/g00315/laws.FnGcra", spec := "fnGcra", apart := false, narrowed := true }
def FnGcraUptoSaid : Prop := fnGcraUptoRow.holds Try.pinned (OpenSpec.upto fnGcraSpec)

/-- 'laws.FnExactPlaySpray', WHERE WHAT IT READS IS OF BULK AT MOST 1048576: true; the input reads as it did. -/
def fnExactPlaySprayUptoRow : OpenClaim := { program := "ytnphabcbnpenjaa", sum := "17e99836b46a5b6b145b4221ba2bb649c24e1eeee6e1797feaf49f9fcbfc2f1d", func := "loop.example/g00315/laws.FnExactPlaySpray", spec := "fnExactPlaySpray", unfollowed := true, recurses := true, apart := false, narrowed := true }
def FnExactPlaySprayUptoSaid : Prop := fnExactPlaySprayUptoRow.holds Try.pinned (OpenSpec.upto fnExactPlaySpraySpec)

/-- 'laws.FnTurns', WHERE WHAT IT READS IS OF BULK AT MOST 1048576: true; the input reads as it did. -/
def fnTurnsUptoRow : OpenClaim := { program := "ytnphabcbnpenjaa", sum := "17e99836b46a5b6b145b4221ba2bb649c24e1eeee6e1797feaf49f9fcbfc2f1d", func := "loop.example/g00315/laws.FnTurns", spec := "fnTurns", unfollowed := true, recurses := true, apart := false, narrowed := true }
def FnTurnsUptoSaid : Prop := fnTurnsUptoRow.holds Try.pinned (OpenSpec.upto fnTurnsSpec)

/-- 'laws.FnFlood', WHERE WHAT IT READS IS OF BULK AT MOST 1048576: true; the input reads as it did. -/
def fnFloodUptoRow : OpenClaim := { program := "ytnphabcbnpenjaa", sum := "17e99836b46a5b6b145b4221ba2bb649c24e1eeee6e1797feaf49f9fcbfc2f1d", func := "loop.example/g00315/laws.FnFlood", spec := "fnFlood", unfollowed := true, recurses := true, apart := false, narrowed := true }
def FnFloodUptoSaid : Prop := fnFloodUptoRow.holds Try.pinned (OpenSpec.upto fnFloodSpec)

/-- 'laws.FnFair', WHERE WHAT IT READS IS OF BULK AT MOST 1048576: true; the input reads as it did. -/
def fnFairUptoRow : OpenClaim := { program := "ytnphabcbnpenjaa", sum := "17e99836b46a5b6b145b4221ba2bb649c24e1eeee6e1797feaf49f9fcbfc2f1d", func := "loop.example/g00315/laws.FnFair", spec := "fnFair", unfollowed := true, recurses := true, apart := false, narrowed := true }
def FnFairUptoSaid : Prop := fnFairUptoRow.holds Try.pinned (OpenSpec.upto fnFairSpec)

end Rows
end Go.Proofs.Ytnphabcbnpenjaa
