/-
  No cell of these rows narrows 'for every input' (looked for: loops, veiled, ifaces, maps, wideKeys, modest, calm, conditions, laid).
  DERIVED. THE GIVEN ROWS OF THIS SEAT. 12 by the template 'for every input the law returns true; each argument reads behind the call as it read before'; 0 by the template 'total and deterministic' (their statements: YteneeohaoplpbaaTotals.lean).
  GIVEN WITH THE SEED: the statements are not yours to turn. If you find one false, say at which input.
  Laid BY PROGRAM, IN A SANDBOX (cutbox-rows.mjs): the forced cells as the released guide's own fill.sh prints them over the translation 19a0b73bf6650515… (all of the seat's roots in one cut). By AI agents, Wed Nov 11 2026. No macro, syntax, notation, axiom, sorry.
-/
import Derived.Test.YteneeohaoplpbaaChecked
import GoSem.Claim
import GoSem.ClaimJoined
import GoSem.ClaimMapViews
import Derived.JoinedTies
import Derived.KernelRfl
namespace Go.Proofs.Yteneeohaoplpbaa
/- THE CELL 'sum', in the pinned program and in every row, IS THE sha256 OF THE DUMP (.gsa) THAT YteneeohaoplpbaaProg.lean LOADS. Nothing in Lean hashes anything: it is a label: what it is worth is what the hold of that sum in a sandbox is worth. -/
noncomputable def Try.pinned : Pinned := { name := "yteneeohaoplpbaa", sum := "19a0b73bf6650515a17df7aa5b72f6f63590883c901dfe4e77a4cc1585994407", checked := Try.checked }
namespace Rows
def none {H : Type} : Left H := { results := [], args := [] }

/-- 'laws.FnExactPutLong': WHATEVER THE INPUT: true; the input reads as it did. -/
def fnExactPutLongSpec : ChangeSpec := { name := "fnExactPutLong", fn := fun _ => fun
  | [d1, d2, d3] => { results := [.lit (.bool true)], args := [d1, d2, d3] }
  | _ => none }
def fnExactPutLongRow : OpenClaim := { program := "yteneeohaoplpbaa", sum := "19a0b73bf6650515a17df7aa5b72f6f63590883c901dfe4e77a4cc1585994407", func := "loop.example/g00315/laws.FnExactPutLong", spec := "fnExactPutLong", unfollowed := true, recurses := true, apart := false }
def FnExactPutLongSaid : Prop := fnExactPutLongRow.holds Try.pinned (OpenSpec.ofChange fnExactPutLongSpec)

/-- ITS FALSE NEIGHBOUR: 'it returns false'. Refute it at one input. -/
def fnExactPutLongWrong : ChangeSpec := { name := "fnExactPutLong", fn := fun _ => fun
  | [d1, d2, d3] => { results := [.lit (.bool false)], args := [d1, d2, d3] }
  | _ => none }
def FnExactPutLongWrongFalsely : Prop := fnExactPutLongRow.holds Try.pinned (OpenSpec.ofChange fnExactPutLongWrong)

/-- 'laws.FnExactFloodUntil': WHATEVER THE INPUT: true; the input reads as it did. -/
def fnExactFloodUntilSpec : ChangeSpec := { name := "fnExactFloodUntil", fn := fun _ => fun
  | [d1, d2, d3, d4] => { results := [.lit (.bool true)], args := [d1, d2, d3, d4] }
  | _ => none }
def fnExactFloodUntilRow : OpenClaim := { program := "yteneeohaoplpbaa", sum := "19a0b73bf6650515a17df7aa5b72f6f63590883c901dfe4e77a4cc1585994407", func := "loop.example/g00315/laws.FnExactFloodUntil", spec := "fnExactFloodUntil", unfollowed := true, recurses := true, apart := false }
def FnExactFloodUntilSaid : Prop := fnExactFloodUntilRow.holds Try.pinned (OpenSpec.ofChange fnExactFloodUntilSpec)

/-- ITS FALSE NEIGHBOUR: 'it returns false'. Refute it at one input. -/
def fnExactFloodUntilWrong : ChangeSpec := { name := "fnExactFloodUntil", fn := fun _ => fun
  | [d1, d2, d3, d4] => { results := [.lit (.bool false)], args := [d1, d2, d3, d4] }
  | _ => none }
def FnExactFloodUntilWrongFalsely : Prop := fnExactFloodUntilRow.holds Try.pinned (OpenSpec.ofChange fnExactFloodUntilWrong)

/-- 'laws.FnExactNewCustody': WHATEVER THE INPUT: true; the input reads as it did. -/
def fnExactNewCustodySpec : ChangeSpec := { name := "fnExactNewCustody", fn := fun _ => fun
  | [d] => { results := [.lit (.bool true)], args := [d] }
  | _ => none }
def fnExactNewCustodyRow : OpenClaim := { program := "yteneeohaoplpbaa", sum := "19a0b73bf6650515a17df7aa5b72f6f63590883c901dfe4e77a4cc1585994407", func := "loop.example/g00315/laws.FnExactNewCustody", spec := "fnExactNewCustody", apart := false }
def FnExactNewCustodySaid : Prop := fnExactNewCustodyRow.holds Try.pinned (OpenSpec.ofChange fnExactNewCustodySpec)

/-- ITS FALSE NEIGHBOUR: 'it returns false'. Refute it at one input. -/
def fnExactNewCustodyWrong : ChangeSpec := { name := "fnExactNewCustody", fn := fun _ => fun
  | [d] => { results := [.lit (.bool false)], args := [d] }
  | _ => none }
def FnExactNewCustodyWrongFalsely : Prop := fnExactNewCustodyRow.holds Try.pinned (OpenSpec.ofChange fnExactNewCustodyWrong)

/-- 'laws.FnSpray': WHATEVER THE INPUT: true; the input reads as it did. -/
def fnSpraySpec : ChangeSpec := { name := "fnSpray", fn := fun _ => fun
  | [d1, d2] => { results := [.lit (.bool true)], args := [d1, d2] }
  | _ => none }
def fnSprayRow : OpenClaim := { program := "yteneeohaoplpbaa", sum := "19a0b73bf6650515a17df7aa5b72f6f63590883c901dfe4e77a4cc1585994407", func := "loop.example/g00315/laws.FnSpray", spec := "fnSpray", unfollowed := true, recurses := true, apart := false }
def FnSpraySaid : Prop := fnSprayRow.holds Try.pinned (OpenSpec.ofChange fnSpraySpec)

/-- ITS FALSE NEIGHBOUR: 'it returns false'. Refute it at one input. -/
def fnSprayWrong : ChangeSpec := { name := "fnSpray", fn := fun _ => fun
  | [d1, d2] => { results := [.lit (.bool false)], args := [d1, d2] }
  | _ => none }
def FnSprayWrongFalsely : Prop := fnSprayRow.holds Try.pinned (OpenSpec.ofChange fnSprayWrong)

/-- 'laws.FnExactNextRound': WHATEVER THE INPUT: true; the input reads as it did. -/
def fnExactNextRoundSpec : ChangeSpec := { name := "fnExactNextRound", fn := fun _ => fun
  | [d] => { results := [.lit (.bool true)], args := [d] }
  | _ => none }
def fnExactNextRoundRow : OpenClaim := { program := "yteneeohaoplpbaa", sum := "19a0b73bf6650515a17df7aa5b72f6f63590883c901dfe4e77a4cc1585994407", func := "loop.example/g00315/laws.FnExactNextRound", spec := "fnExactNextRound", unfollowed := true, recurses := true, apart := false }
def FnExactNextRoundSaid : Prop := fnExactNextRoundRow.holds Try.pinned (OpenSpec.ofChange fnExactNextRoundSpec)

/-- ITS FALSE NEIGHBOUR: 'it returns false'. Refute it at one input. -/
def fnExactNextRoundWrong : ChangeSpec := { name := "fnExactNextRound", fn := fun _ => fun
  | [d] => { results := [.lit (.bool false)], args := [d] }
  | _ => none }
def FnExactNextRoundWrongFalsely : Prop := fnExactNextRoundRow.holds Try.pinned (OpenSpec.ofChange fnExactNextRoundWrong)

/-- 'laws.FnExactForwardStep': WHATEVER THE INPUT: true; the input reads as it did. -/
def fnExactForwardStepSpec : ChangeSpec := { name := "fnExactForwardStep", fn := fun _ => fun
  | [d1, d2, d3, d4, d5] => { results := [.lit (.bool true)], args := [d1, d2, d3, d4, d5] }
  | _ => none }
def fnExactForwardStepRow : OpenClaim := { program := "yteneeohaoplpbaa", sum := "19a0b73bf6650515a17df7aa5b72f6f63590883c901dfe4e77a4cc1585994407", func := "loop.example/g00315/laws.FnExactForwardStep", spec := "fnExactForwardStep", unfollowed := true, recurses := true, apart := false }
def FnExactForwardStepSaid : Prop := fnExactForwardStepRow.holds Try.pinned (OpenSpec.ofChange fnExactForwardStepSpec)

/-- ITS FALSE NEIGHBOUR: 'it returns false'. Refute it at one input. -/
def fnExactForwardStepWrong : ChangeSpec := { name := "fnExactForwardStep", fn := fun _ => fun
  | [d1, d2, d3, d4, d5] => { results := [.lit (.bool false)], args := [d1, d2, d3, d4, d5] }
  | _ => none }
def FnExactForwardStepWrongFalsely : Prop := fnExactForwardStepRow.holds Try.pinned (OpenSpec.ofChange fnExactForwardStepWrong)

/-- 'laws.FnExactRunRounds': WHATEVER THE INPUT: true; the input reads as it did. -/
def fnExactRunRoundsSpec : ChangeSpec := { name := "fnExactRunRounds", fn := fun _ => fun
  | [d1, d2] => { results := [.lit (.bool true)], args := [d1, d2] }
  | _ => none }
def fnExactRunRoundsRow : OpenClaim := { program := "yteneeohaoplpbaa", sum := "19a0b73bf6650515a17df7aa5b72f6f63590883c901dfe4e77a4cc1585994407", func := "loop.example/g00315/laws.FnExactRunRounds", spec := "fnExactRunRounds", unfollowed := true, recurses := true, apart := false }
def FnExactRunRoundsSaid : Prop := fnExactRunRoundsRow.holds Try.pinned (OpenSpec.ofChange fnExactRunRoundsSpec)

/-- ITS FALSE NEIGHBOUR: 'it returns false'. Refute it at one input. -/
def fnExactRunRoundsWrong : ChangeSpec := { name := "fnExactRunRounds", fn := fun _ => fun
  | [d1, d2] => { results := [.lit (.bool false)], args := [d1, d2] }
  | _ => none }
def FnExactRunRoundsWrongFalsely : Prop := fnExactRunRoundsRow.holds Try.pinned (OpenSpec.ofChange fnExactRunRoundsWrong)

/-- 'laws.FnExactFollowPlan': WHATEVER THE INPUT: true; the input reads as it did. -/
def fnExactFollowPlanSpec : ChangeSpec := { name := "fnExactFollowPlan", fn := fun _ => fun
  | [d1, d2, d3] => { results := [.lit (.bool true)], args := [d1, d2, d3] }
  | _ => none }
def fnExactFollowPlanRow : OpenClaim := { program := "yteneeohaoplpbaa", sum := "19a0b73bf6650515a17df7aa5b72f6f63590883c901dfe4e77a4cc1585994407", func := "loop.example/g00315/laws.FnExactFollowPlan", spec := "fnExactFollowPlan", unfollowed := true, recurses := true, apart := false }
def FnExactFollowPlanSaid : Prop := fnExactFollowPlanRow.holds Try.pinned (OpenSpec.ofChange fnExactFollowPlanSpec)

/-- ITS FALSE NEIGHBOUR: 'it returns false'. Refute it at one input. -/
def fnExactFollowPlanWrong : ChangeSpec := { name := "fnExactFollowPlan", fn := fun _ => fun
  | [d1, d2, d3] => { results := [.lit (.bool false)], args := [d1, d2, d3] }
  | _ => none }
def FnExactFollowPlanWrongFalsely : Prop := fnExactFollowPlanRow.holds Try.pinned (OpenSpec.ofChange fnExactFollowPlanWrong)

/-- 'laws.FnExactDeliveredBy': WHATEVER THE INPUT: true; the input reads as it did. -/
def fnExactDeliveredBySpec : ChangeSpec := { name := "fnExactDeliveredBy", fn := fun _ => fun
  | [d1, d2, d3, d4] => { results := [.lit (.bool true)], args := [d1, d2, d3, d4] }
  | _ => none }
def fnExactDeliveredByRow : OpenClaim := { program := "yteneeohaoplpbaa", sum := "19a0b73bf6650515a17df7aa5b72f6f63590883c901dfe4e77a4cc1585994407", func := "loop.example/g00315/laws.FnExactDeliveredBy", spec := "fnExactDeliveredBy", unfollowed := true, recurses := true, apart := false }
def FnExactDeliveredBySaid : Prop := fnExactDeliveredByRow.holds Try.pinned (OpenSpec.ofChange fnExactDeliveredBySpec)

/-- ITS FALSE NEIGHBOUR: 'it returns false'. Refute it at one input. -/
def fnExactDeliveredByWrong : ChangeSpec := { name := "fnExactDeliveredBy", fn := fun _ => fun
  | [d1, d2, d3, d4] => { results := [.lit (.bool false)], args := [d1, d2, d3, d4] }
  | _ => none }
def FnExactDeliveredByWrongFalsely : Prop := fnExactDeliveredByRow.holds Try.pinned (OpenSpec.ofChange fnExactDeliveredByWrong)

/-- 'laws.FnFollow': WHATEVER THE INPUT: true; the input reads as it did. -/
def fnFollowSpec : ChangeSpec := { name := "fnFollow", fn := fun _ => fun
  | [d1, d2] => { results := [.lit (.bool true)], args := [d1, d2] }
  | _ => none }
def fnFollowRow : OpenClaim := { program := "yteneeohaoplpbaa", sum := "19a0b73bf6650515a17df7aa5b72f6f63590883c901dfe4e77a4cc1585994407", func := "loop.example/g00315/laws.FnFollow", spec := "fnFollow", unfollowed := true, recurses := true, apart := false }
def FnFollowSaid : Prop := fnFollowRow.holds Try.pinned (OpenSpec.ofChange fnFollowSpec)

/-- ITS FALSE NEIGHBOUR: 'it returns false'. Refute it at one input. -/
def fnFollowWrong : ChangeSpec := { name := "fnFollow", fn := fun _ => fun
  | [d1, d2] => { results := [.lit (.bool false)], args := [d1, d2] }
  | _ => none }
def FnFollowWrongFalsely : Prop := fnFollowRow.holds Try.pinned (OpenSpec.ofChange fnFollowWrong)

/-- 'laws.FnExactReachAll': WHATEVER THE INPUT: true; the input reads as it did. -/
def fnExactReachAllSpec : ChangeSpec := { name := "fnExactReachAll", fn := fun _ => fun
  | [d1, d2, d3] => { results := [.lit (.bool true)], args := [d1, d2, d3] }
  | _ => none }
def fnExactReachAllRow : OpenClaim := { program := "yteneeohaoplpbaa", sum := "19a0b73bf6650515a17df7aa5b72f6f63590883c901dfe4e77a4cc1585994407", func := "loop.example/g00315/laws.FnExactReachAll", spec := "fnExactReachAll", unfollowed := true, recurses := true, apart := false }
def FnExactReachAllSaid : Prop := fnExactReachAllRow.holds Try.pinned (OpenSpec.ofChange fnExactReachAllSpec)

/-- ITS FALSE NEIGHBOUR: 'it returns false'. Refute it at one input. -/
def fnExactReachAllWrong : ChangeSpec := { name := "fnExactReachAll", fn := fun _ => fun
  | [d1, d2, d3] => { results := [.lit (.bool false)], args := [d1, d2, d3] }
  | _ => none }
def FnExactReachAllWrongFalsely : Prop := fnExactReachAllRow.holds Try.pinned (OpenSpec.ofChange fnExactReachAllWrong)

/-- 'laws.FnExactJoinMembers': WHATEVER THE INPUT: true; the input reads as it did. -/
def fnExactJoinMembersSpec : ChangeSpec := { name := "fnExactJoinMembers", fn := fun _ => fun
  | [d1, d2] => { results := [.lit (.bool true)], args := [d1, d2] }
  | _ => none }
def fnExactJoinMembersRow : OpenClaim := { program := "yteneeohaoplpbaa", sum := "19a0b73bf6650515a17df7aa5b72f6f63590883c901dfe4e77a4cc1585994407", func := "loop.example/g00315/laws.FnExactJoinMembers", spec := "fnExactJoinMembers", recurses := true, apart := false }
def FnExactJoinMembersSaid : Prop := fnExactJoinMembersRow.holds Try.pinned (OpenSpec.ofChange fnExactJoinMembersSpec)

/-- ITS FALSE NEIGHBOUR: 'it returns false'. Refute it at one input. -/
def fnExactJoinMembersWrong : ChangeSpec := { name := "fnExactJoinMembers", fn := fun _ => fun
  | [d1, d2] => { results := [.lit (.bool false)], args := [d1, d2] }
  | _ => none }
def FnExactJoinMembersWrongFalsely : Prop := fnExactJoinMembersRow.holds Try.pinned (OpenSpec.ofChange fnExactJoinMembersWrong)

/- THE SECOND FORM. 'bulk': how many values and letters a reading holds, each counted each time it is reached (what is shared counts as often as it is met; a slice's spare places count too). A statement '..UptoSaid' is the law's where the arguments, and the package variables that the reading takes, are together of bulk at most 1048576: NARROWER than '..Said'. Prove '..Said' where nothing that the law and all that it calls make is longer than what came in: it says more and counts as full. Else prove '..UptoSaid'. A law counts once. -/
mutual
def uptoBulk {H : Type} : DataW H → Nat
  | .lit (.string bytes) => bytes.length + 1
  | .lit _ => 1
  | .nil => 1
  | .ptr d => uptoBulk d + 1
  | .slice elems spare => uptoBulkAll elems + uptoBulkAll spare + 1
  | .agg parts => uptoBulkAll parts + 1
  | .iface _ d => uptoBulk d + 1
  | .map entries => uptoBulkEntries entries + 1
  | .held _ => 1
def uptoBulkAll {H : Type} : List (DataW H) → Nat
  | [] => 0
  | d :: r => uptoBulk d + uptoBulkAll r
def uptoBulkEntries {H : Type} : List (Lit × DataW H) → Nat
  | [] => 0
  | x :: r => uptoBulkEntry x + uptoBulkEntries r
def uptoBulkEntry {H : Type} : Lit × DataW H → Nat
  | (.string bytes, d) => bytes.length + uptoBulk d + 1
  | (_, d) => uptoBulk d + 1
 end
def uptoSmall : (H : Type) → List (DataW H) → Bool := fun _ ds => decide (uptoBulkAll ds ≤ 1048576)
def OpenSpec.upto (s : _root_.Go.ChangeSpec) : _root_.Go.OpenSpec := { _root_.Go.OpenSpec.ofChange s with cond := some uptoSmall }

/-- 'laws.FnExactPutLong', WHERE WHAT IT READS IS OF BULK AT MOST 1048576: true; the input reads as it did. -/
def fnExactPutLongUptoRow : OpenClaim := { program := "yteneeohaoplpbaa", sum := "19a0b73bf6650515a17df7aa5b72f6f63590883c901dfe4e77a4cc1585994407", func := "loop.example/g00315/laws.FnExactPutLong", spec := "fnExactPutLong", unfollowed := true, recurses := true, apart := false, narrowed := true }
def FnExactPutLongUptoSaid : Prop := fnExactPutLongUptoRow.holds Try.pinned (OpenSpec.upto fnExactPutLongSpec)

/-- 'laws.FnExactFloodUntil', WHERE WHAT IT READS IS OF BULK AT MOST 1048576: true; the input reads as it did. -/
def fnExactFloodUntilUptoRow : OpenClaim := { program := "yteneeohaoplpbaa", sum := "19a0b73bf6650515a17df7aa5b72f6f63590883c901dfe4e77a4cc1585994407", func := "loop.example/g00315/laws.FnExactFloodUntil", spec := "fnExactFloodUntil", unfollowed := true, recurses := true, apart := false, narrowed := true }
def FnExactFloodUntilUptoSaid : Prop := fnExactFloodUntilUptoRow.holds Try.pinned (OpenSpec.upto fnExactFloodUntilSpec)

/-- 'laws.FnExactNewCustody', WHERE WHAT IT READS IS OF BULK AT MOST 1048576: true; the input reads as it did. -/
def fnExactNewCustodyUptoRow : OpenClaim := { program := "yteneeohaoplpbaa", sum := "19a0b73bf6650515a17df7aa5b72f6f63590883c901dfe4e77a4cc1585994407", func := "loop.example/g00315/laws.FnExactNewCustody", spec := "fnExactNewCustody", apart := false, narrowed := true }
def FnExactNewCustodyUptoSaid : Prop := fnExactNewCustodyUptoRow.holds Try.pinned (OpenSpec.upto fnExactNewCustodySpec)

/-- 'laws.FnSpray', WHERE WHAT IT READS IS OF BULK AT MOST 1048576: true; the input reads as it did. -/
def fnSprayUptoRow : OpenClaim := { program := "yteneeohaoplpbaa", sum := "19a0b73bf6650515a17df7aa5b72f6f63590883c901dfe4e77a4cc1585994407", func := "loop.example/g00315/laws.FnSpray", spec := "fnSpray", unfollowed := true, recurses := true, apart := false, narrowed := true }
def FnSprayUptoSaid : Prop := fnSprayUptoRow.holds Try.pinned (OpenSpec.upto fnSpraySpec)

/-- 'laws.FnExactNextRound', WHERE WHAT IT READS IS OF BULK AT MOST 1048576: true; the input reads as it did. -/
def fnExactNextRoundUptoRow : OpenClaim := { program := "yteneeohaoplpbaa", sum := "19a0b73bf6650515a17df7aa5b72f6f63590883c901dfe4e77a4cc1585994407", func := "loop.example/g00315/laws.FnExactNextRound", spec := "fnExactNextRound", unfollowed := true, recurses := true, apart := false, narrowed := true }
def FnExactNextRoundUptoSaid : Prop := fnExactNextRoundUptoRow.holds Try.pinned (OpenSpec.upto fnExactNextRoundSpec)

/-- 'laws.FnExactForwardStep', WHERE WHAT IT READS IS OF BULK AT MOST 1048576: true; the input reads as it did. -/
def fnExactForwardStepUptoRow : OpenClaim := { program := "yteneeohaoplpbaa", sum := "19a0b73bf6650515a17df7aa5b72f6f63590883c901dfe4e77a4cc1585994407", func := "loop.example/g00315/laws.FnExactForwardStep", spec := "fnExactForwardStep", unfollowed := true, recurses := true, apart := false, narrowed := true }
def FnExactForwardStepUptoSaid : Prop := fnExactForwardStepUptoRow.holds Try.pinned (OpenSpec.upto fnExactForwardStepSpec)

/-- 'laws.FnExactRunRounds', WHERE WHAT IT READS IS OF BULK AT MOST 1048576: true; the input reads as it did. -/
def fnExactRunRoundsUptoRow : OpenClaim := { program := "yteneeohaoplpbaa", sum := "19a0b73bf6650515a17df7aa5b72f6f63590883c901dfe4e77a4cc1585994407", func := "loop.example/g00315/laws.FnExactRunRounds", spec := "fnExactRunRounds", unfollowed := true, recurses := true, apart := false, narrowed := true }
def FnExactRunRoundsUptoSaid : Prop := fnExactRunRoundsUptoRow.holds Try.pinned (OpenSpec.upto fnExactRunRoundsSpec)

/-- 'laws.FnExactFollowPlan', WHERE WHAT IT READS IS OF BULK AT MOST 1048576: true; the input reads as it did. -/
def fnExactFollowPlanUptoRow : OpenClaim := { program := "yteneeohaoplpbaa", sum := "19a0b73bf6650515a17df7aa5b72f6f63590883c901dfe4e77a4cc1585994407", func := "loop.example/g00315/laws.FnExactFollowPlan", spec := "fnExactFollowPlan", unfollowed := true, recurses := true, apart := false, narrowed := true }
def FnExactFollowPlanUptoSaid : Prop := fnExactFollowPlanUptoRow.holds Try.pinned (OpenSpec.upto fnExactFollowPlanSpec)

/-- 'laws.FnExactDeliveredBy', WHERE WHAT IT READS IS OF BULK AT MOST 1048576: true; the input reads as it did. -/
def fnExactDeliveredByUptoRow : OpenClaim := { program := "yteneeohaoplpbaa", sum := "19a0b73bf6650515a17df7aa5b72f6f63590883c901dfe4e77a4cc1585994407", func := "loop.example/g00315/laws.FnExactDeliveredBy", spec := "fnExactDeliveredBy", unfollowed := true, recurses := true, apart := false, narrowed := true }
def FnExactDeliveredByUptoSaid : Prop := fnExactDeliveredByUptoRow.holds Try.pinned (OpenSpec.upto fnExactDeliveredBySpec)

/-- 'laws.FnFollow', WHERE WHAT IT READS IS OF BULK AT MOST 1048576: true; the input reads as it did. -/
def fnFollowUptoRow : OpenClaim := { program := "yteneeohaoplpbaa", sum := "19a0b73bf6650515a17df7aa5b72f6f63590883c901dfe4e77a4cc1585994407", func := "loop.example/g00315/laws.FnFollow", spec := "fnFollow", unfollowed := true, recurses := true, apart := false, narrowed := true }
def FnFollowUptoSaid : Prop := fnFollowUptoRow.holds Try.pinned (OpenSpec.upto fnFollowSpec)

/-- 'laws.FnExactReachAll', WHERE WHAT IT READS IS OF BULK AT MOST 1048576: true; the input reads as it did. -/
def fnExactReachAllUptoRow : OpenClaim := { program := "yteneeohaoplpbaa", sum := "19a0b73bf6650515a17df7aa5b72f6f63590883c901dfe4e77a4cc1585994407", func := "loop.example/g00315/laws.FnExactReachAll", spec := "fnExactReachAll", unfollowed := true, recurses := true, apart := false, narrowed := true }
def FnExactReachAllUptoSaid : Prop := fnExactReachAllUptoRow.holds Try.pinned (OpenSpec.upto fnExactReachAllSpec)

/-- 'laws.FnExactJoinMembers', WHERE WHAT IT READS IS OF BULK AT MOST 1048576: true; the input reads as it did. -/
def fnExactJoinMembersUptoRow : OpenClaim := { program := "yteneeohaoplpbaa", sum := "19a0b73bf6650515a17df7aa5b72f6f63590883c901dfe4e77a4cc1585994407", func := "loop.example/g00315/laws.FnExactJoinMembers", spec := "fnExactJoinMembers", recurses := true, apart := false, narrowed := true }
def FnExactJoinMembersUptoSaid : Prop := fnExactJoinMembersUptoRow.holds Try.pinned (OpenSpec.upto fnExactJoinMembersSpec)

end Rows
end Go.Proofs.Yteneeohaoplpbaa
