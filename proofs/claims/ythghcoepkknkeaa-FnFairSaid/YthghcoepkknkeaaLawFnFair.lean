/- Of two queues of the drawn turns that wait all the time neither sends more than the other by more than what it had left and a longest one. The row, out of the contract of the law and the pure statement. -/
import Derived.Test.YthghcoepkknkeaaRows
import Derived.Test.YthghcoepkknkeaaXFnFairx12
import Derived.Test.YthghcoepkknkeaaPureFnFair
import Derived.Test.YthghcoepkknkeaaOpenFnFair
import Derived.WalkKit
import Derived.ProofKit
import Derived.OpenShut
import Derived.ShutString
import Derived.ChangeOld
import Derived.Below
import Derived.SizedLaws
namespace Go.Proofs.Ythghcoepkknkeaa.fnFair
open Go.ChangeShapes Go.WideShapes Go.ChangeAt Go.RowKit Go.Proofs.Ythghcoepkknkeaa.Open Go.Proofs.YthghcoepkknkeaaW.PrintWords Go.Proofs.Ythghcoepkknkeaa.XFnFair
open Go.ChangeMaps (open_string shut_string)
set_option linter.unusedVariables false
theorem own : ownKnob Try.prog.godebug = none := by kernel_rfl
theorem laidOut : laidOutB Try.prog = true := by kernel_rfl
set_option maxRecDepth 100000 in
theorem lifted (os : Os) (started : os.Started) (H : Type) (enc : TypeId × Value → H) :
    ReturnsInHanded {} Try.checked os 4 .any (Rows.fnFairSpec.pre6 enc Try.prog Try.f4 Rows.fnFairRow.domain false) (Rows.fnFairSpec.post enc Try.prog Try.f4 false true false false) := by
  refine returnsInHanded_of_change_sized (C := Try.checked) own started (by kernel_rfl) Try.func4
    (ChangeSpec.witness6 (enc := enc) (C := Try.checked) false ⟨#[], #[.slice none 0 0], []⟩ 8 (by kernel_rfl) (by kernel_rfl) (by kernel_rfl) (by kernel_rfl)) ?_
  intro W base args ds gs before hval0 hW hcnd hsz0 _
  have hsz : (DataW.weightsEach Try.prog (Try.f4.params.toList ++ Rows.fnFairSpec.plain.varTypes Try.prog) (ds ++ gs)).all (· ≤ reachBytes) = true := hsz0
  have hval : ∀ (j : Nat) t v, Try.f4.params[j]? = some t → args[j]? = some v → Value.okWide Try.prog W .any base t v := hval0
  have hW' := hW
  obtain ⟨p, q, hA0, hV, rfl, hfz, hnd⟩ := hW
  have hA : DataW.TrodAll enc Try.prog W 0 (fun _ => true) true Try.f4.params.toList args.toList ds p := hA0
  rw [Try.params4] at hA hval hsz
  obtain ⟨v0, vs0, d0, ds0, p0, q0, hargs, rfl, rfl, h0, r0⟩ := trodAll_cons hA
  obtain ⟨rfl, rfl, rfl⟩ := trodAll_nil r0
  obtain rfl : args = #[v0] := by cases args; simp_all
  obtain ⟨rfl, rfl⟩ := trodVars_none hV
  have k0 := h0
  have lt0 : ∀ x ∈ p0, x.block < W.heap.size := by obtain ⟨m, hm⟩ := k0; exact DataW.trod_lt m _ _ _ hm
  obtain ⟨l0, ⟨A0, c0, e0, hc0, hr0⟩, ok0⟩ := opens_arg (opens_slice (0 : Int) Try.underlying22 (by kernel_rfl) (opens_int Try.underlying5 (by kernel_rfl)) : Opens Try.prog W 22 (Kd.slice 5 (Kd.int .u8)) _) h0
  obtain rfl := slice_cells Try.underlying22 (hval 0 22 v0 rfl rfl) e0
  clear hA0 hval0 hsz0 hsz
  obtain ⟨k, hk⟩ := Pure.FnFair l0 ok0
  refine (XFnFair.laws_FnFair.calls k A0 c0 l0 true W hr0 hc0 hk rfl).mono fun e W' ⟨he, bel0⟩ => ?_
  have bel : Below W.heap.size W W' := bel0
  subst he
  exact ⟨_, rfl, _, _, _, [], _, [], hW', trodAll_mk1 (shut_bool Try.underlying4 _), (trodAll_cons_mk (Below.trod laidOut (by kernel_rfl) (of_decide_eq_true (by kernel_rfl)) k0 bel lt0) trodAll_mk0), rfl, bel.frame _, fun h => by cases h⟩
theorem named_ : Try.pinned.checked.prog.funcNamed Rows.fnFairRow.func = some 4 := by kernel_rfl
theorem closed_ : joinedFacts Try.pinned.checked.prog 4 Try.f4 Rows.fnFairSpec Rows.fnFairRow = true := by kernel_rfl
theorem over : Rows.fnFairRow.holds Try.pinned (OpenSpec.ofChange Rows.fnFairSpec) :=
  OpenClaim.holds_of_wide 4 Try.f4 rfl rfl rfl rfl rfl rfl rfl ⟨rfl, rfl, rfl, rfl, rfl⟩ rfl rfl rfl rfl rfl named_ Try.func4 closed_
    (of_decide_eq_true (by kernel_rfl)) (by unfold Func.isWrapper; first | (rw [if_pos (by decide +kernel)]; kernel_rfl) | (rw [if_neg (by decide +kernel)]; exact ⟨rfl, rfl⟩))
    (fun os started H enc _ => lifted os started H enc)
theorem proved : Rows.FnFairSaid := over
end Go.Proofs.Ythghcoepkknkeaa.fnFair
namespace Go.Proofs.Ythghcoepkknkeaa
/-- The row, under a short name, for the claim. -/
theorem fnFair_holds : Rows.FnFairSaid := fnFair.proved
#print axioms fnFair_holds
end Go.Proofs.Ythghcoepkknkeaa
