/- The program's JoinMembers returns what the reference's returns, for all pairs of lists; it writes into none and its list is new memory. The row, out of the contract of the law and the pure statement. -/
import Derived.Test.YteneeohaoplpbaaRows
import Derived.Test.YteneeohaoplpbaaXFnExactJoinMembersx4
import Derived.Test.YteneeohaoplpbaaPureFnExactJoinMembers
import Derived.Test.YteneeohaoplpbaaOpenFnExactJoinMembers
import Derived.WalkKit
import Derived.ProofKit
import Derived.OpenShut
import Derived.ShutString
import Derived.ChangeOld
import Derived.Below
import Derived.SizedLaws
namespace Go.Proofs.Yteneeohaoplpbaa.fnExactJoinMembers
open Go.ChangeShapes Go.WideShapes Go.ChangeAt Go.RowKit Go.Proofs.Yteneeohaoplpbaa.Open Go.Proofs.YteneeohaoplpbaaW.PrintWords Go.Proofs.Yteneeohaoplpbaa.XFnExactJoinMembers
open Go.ChangeMaps (open_string shut_string)
set_option linter.unusedVariables false
theorem own : ownKnob Try.prog.godebug = none := by kernel_rfl
theorem laidOut : laidOutB Try.prog = true := by kernel_rfl
set_option maxRecDepth 100000 in
theorem lifted (os : Os) (started : os.Started) (H : Type) (enc : TypeId × Value → H) :
    ReturnsInHanded {} Try.checked os 14 .any (Rows.fnExactJoinMembersSpec.pre6 enc Try.prog Try.f14 Rows.fnExactJoinMembersRow.domain false) (Rows.fnExactJoinMembersSpec.post enc Try.prog Try.f14 false true false false) := by
  refine returnsInHanded_of_change_sized (C := Try.checked) own started (by kernel_rfl) Try.func14
    (ChangeSpec.witness6 (enc := enc) (C := Try.checked) false ⟨#[], #[.slice none 0 0, .slice none 0 0], []⟩ 8 (by kernel_rfl) (by kernel_rfl) (by kernel_rfl) (by kernel_rfl)) ?_
  intro W base args ds gs before hval0 hW hcnd hsz0 _
  have hsz : (DataW.weightsEach Try.prog (Try.f14.params.toList ++ Rows.fnExactJoinMembersSpec.plain.varTypes Try.prog) (ds ++ gs)).all (· ≤ reachBytes) = true := hsz0
  have hval : ∀ (j : Nat) t v, Try.f14.params[j]? = some t → args[j]? = some v → Value.okWide Try.prog W .any base t v := hval0
  have hW' := hW
  obtain ⟨p, q, hA0, hV, rfl, hfz, hnd⟩ := hW
  have hA : DataW.TrodAll enc Try.prog W 0 (fun _ => true) true Try.f14.params.toList args.toList ds p := hA0
  rw [Try.params14] at hA hval hsz
  obtain ⟨v0, vs0, d0, ds0, p0, q0, hargs, rfl, rfl, h0, r0⟩ := trodAll_cons hA
  obtain ⟨v1, vs1, d1, ds1, p1, q1, rfl, rfl, rfl, h1, r1⟩ := trodAll_cons r0
  obtain ⟨rfl, rfl, rfl⟩ := trodAll_nil r1
  obtain rfl : args = #[v0, v1] := by cases args; simp_all
  obtain ⟨rfl, rfl⟩ := trodVars_none hV
  have k0 := h0
  have lt0 : ∀ x ∈ p0, x.block < W.heap.size := by obtain ⟨m, hm⟩ := k0; exact DataW.trod_lt m _ _ _ hm
  obtain ⟨l0, ⟨A0, c0, e0, hc0, hr0⟩, ok0⟩ := opens_arg (opens_slice (0 : Int) Try.underlying37 (by kernel_rfl) (opens_int Try.underlying3 (by kernel_rfl)) : Opens Try.prog W 37 (Kd.slice 3 (Kd.int .i64)) _) h0
  obtain rfl := slice_cells Try.underlying37 (hval 0 37 v0 rfl rfl) e0
  have k1 := h1
  have lt1 : ∀ x ∈ p1, x.block < W.heap.size := by obtain ⟨m, hm⟩ := k1; exact DataW.trod_lt m _ _ _ hm
  obtain ⟨l1, ⟨A1, c1, e1, hc1, hr1⟩, ok1⟩ := opens_arg (opens_slice (0 : Int) Try.underlying37 (by kernel_rfl) (opens_int Try.underlying3 (by kernel_rfl)) : Opens Try.prog W 37 (Kd.slice 3 (Kd.int .i64)) _) h1
  obtain rfl := slice_cells Try.underlying37 (hval 1 37 v1 rfl rfl) e1
  clear hA0 hval0 hsz0 hsz
  obtain ⟨k, hk⟩ := Pure.FnExactJoinMembers l0 l1 ok0 ok1
  refine (XFnExactJoinMembers.laws_FnExactJoinMembers.calls k A0 c0 l0 A1 c1 l1 true W hr0 hc0 hr1 hc1 hk).mono fun e W' ⟨he, bel0⟩ => ?_
  have bel : Below W.heap.size W W' := bel0
  subst he
  exact ⟨_, rfl, _, _, _, [], _, [], hW', trodAll_mk1 (shut_bool Try.underlying4 _), (trodAll_cons_mk (Below.trod laidOut (by kernel_rfl) (of_decide_eq_true (by kernel_rfl)) k0 bel lt0) (trodAll_cons_mk (Below.trod laidOut (by kernel_rfl) (of_decide_eq_true (by kernel_rfl)) k1 bel lt1) trodAll_mk0)), rfl, bel.frame _, fun h => by cases h⟩
theorem over : Rows.fnExactJoinMembersRow.holds Try.pinned (OpenSpec.ofChange Rows.fnExactJoinMembersSpec) :=
  OpenClaim.holds_of_wide 14 Try.f14 rfl rfl rfl rfl rfl rfl rfl ⟨rfl, rfl, rfl, rfl, rfl⟩ rfl rfl rfl rfl rfl (by kernel_rfl) Try.func14 (by kernel_rfl)
    (of_decide_eq_true (by kernel_rfl)) (by unfold Func.isWrapper; first | (rw [if_pos (by decide +kernel)]; kernel_rfl) | (rw [if_neg (by decide +kernel)]; exact ⟨rfl, rfl⟩))
    (fun os started H enc _ => lifted os started H enc)
theorem proved : Rows.FnExactJoinMembersSaid := over
end Go.Proofs.Yteneeohaoplpbaa.fnExactJoinMembers
namespace Go.Proofs.Yteneeohaoplpbaa
/-- The row, under a short name, for the claim. -/
theorem fnExactJoinMembers_holds : Rows.FnExactJoinMembersSaid := fnExactJoinMembers.proved
#print axioms fnExactJoinMembers_holds
end Go.Proofs.Yteneeohaoplpbaa
