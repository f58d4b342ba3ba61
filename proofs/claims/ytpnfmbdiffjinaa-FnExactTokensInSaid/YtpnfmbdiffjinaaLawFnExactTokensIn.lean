/- The program's TokensIn returns what the reference's returns, for all rows of tokens. The row, out of the contract of the law and the pure statement. -/
import Derived.Test.YtpnfmbdiffjinaaRows
import Derived.Test.YtpnfmbdiffjinaaXFnExactTokensInx3
import Derived.Test.YtpnfmbdiffjinaaPureFnExactTokensIn
import Derived.Test.YtpnfmbdiffjinaaOpen
import Derived.WalkKit
import Derived.ProofKit
import Derived.OpenShut
import Derived.ShutString
import Derived.ChangeOld
import Derived.Below
import Derived.SizedLaws
namespace Go.Proofs.Ytpnfmbdiffjinaa.fnExactTokensIn
open Go.ChangeShapes Go.WideShapes Go.ChangeAt Go.RowKit Go.Proofs.Ytpnfmbdiffjinaa.Open Go.Proofs.YtpnfmbdiffjinaaW.PrintWords Go.Proofs.Ytpnfmbdiffjinaa.XFnExactTokensIn
open Go.ChangeMaps (open_string shut_string)
set_option linter.unusedVariables false
theorem own : ownKnob Try.prog.godebug = none := by kernel_rfl
theorem laidOut : laidOutB Try.prog = true := by kernel_rfl
theorem p63 (W : World) : Opens Try.prog W 63 (Kd.pair (Kd.slice 3 (Kd.int .i64)) (Kd.pair (Kd.int .i64) Kd.bool)) (fun p => (p.1.length ≤ maxLen ∧ ∀ x ∈ p.1, (Lit.int .i64 x).wf = true) ∧ ((Lit.int .i64 p.2.1).wf = true) ∧ True) := opens_struct Try.underlying63 (by kernel_rfl) (fs_cons (by rfl) (opens_slice (0 : Int) Try.underlying47 (by kernel_rfl) (opens_int Try.underlying3 (by kernel_rfl))) (fs_cons (by rfl) (opens_int Try.underlying3 (by kernel_rfl)) (fs_one (by rfl) (opens_bool Try.underlying4 (by kernel_rfl)))))
set_option maxRecDepth 100000 in
theorem lifted (os : Os) (started : os.Started) (H : Type) (enc : TypeId × Value → H) :
    ReturnsInHanded {} Try.checked os 13 .any (Rows.fnExactTokensInSpec.pre6 enc Try.prog Try.f13 Rows.fnExactTokensInRow.domain false) (Rows.fnExactTokensInSpec.post enc Try.prog Try.f13 false true false false) := by
  refine returnsInHanded_of_change_sized (C := Try.checked) own started (by kernel_rfl) Try.func13
    (ChangeSpec.witness6 (enc := enc) (C := Try.checked) false ⟨#[], #[.agg #[.slice none 0 0, .int .i64 0, .bool false]], []⟩ 8 (by kernel_rfl) (by kernel_rfl) (by kernel_rfl) (by kernel_rfl)) ?_
  intro W base args ds gs before hval0 hW hcnd hsz0 _
  have hsz : (DataW.weightsEach Try.prog (Try.f13.params.toList ++ Rows.fnExactTokensInSpec.plain.varTypes Try.prog) (ds ++ gs)).all (· ≤ reachBytes) = true := hsz0
  have hval : ∀ (j : Nat) t v, Try.f13.params[j]? = some t → args[j]? = some v → Value.okWide Try.prog W .any base t v := hval0
  have hW' := hW
  obtain ⟨p, q, hA0, hV, rfl, hfz, hnd⟩ := hW
  have hA : DataW.TrodAll enc Try.prog W 0 (fun _ => true) true Try.f13.params.toList args.toList ds p := hA0
  rw [Try.params13] at hA hval hsz
  obtain ⟨v0, vs0, d0, ds0, p0, q0, hargs, rfl, rfl, h0, r0⟩ := trodAll_cons hA
  obtain ⟨rfl, rfl, rfl⟩ := trodAll_nil r0
  obtain rfl : args = #[v0] := by cases args; simp_all
  obtain ⟨rfl, rfl⟩ := trodVars_none hV
  have k0 := h0
  have lt0 : ∀ x ∈ p0, x.block < W.heap.size := by obtain ⟨m, hm⟩ := k0; exact DataW.trod_lt m _ _ _ hm
  obtain ⟨⟨l0_0, a0_1, a0_2⟩, ⟨_, _, e0, ⟨A0_0, c0_0, rfl, hc0_0, hr0_0⟩, ⟨_, _, rfl, rfl, rfl⟩⟩, ok0⟩ := opens_arg (p63 W) h0
  obtain rfl := agg_cells Try.underlying63 (hval 0 63 v0 rfl rfl) e0
  clear hA0 hval0 hsz0 hsz
  obtain ⟨k, hk⟩ := Pure.FnExactTokensIn l0_0 a0_1 a0_2 ok0
  refine (XFnExactTokensIn.laws_FnExactTokensIn.calls k A0_0 c0_0 l0_0 a0_1 a0_2 true W hr0_0 hc0_0 hk).mono fun e W' ⟨he, bel0⟩ => ?_
  have bel : Below W.heap.size W W' := bel0
  subst he
  exact ⟨_, rfl, _, _, _, [], _, [], hW', trodAll_mk1 (shut_bool Try.underlying4 _), (trodAll_cons_mk (Below.trod laidOut (by kernel_rfl) (of_decide_eq_true (by kernel_rfl)) k0 bel lt0) trodAll_mk0), rfl, bel.frame _, fun h => by cases h⟩
theorem over : Rows.fnExactTokensInRow.holds Try.pinned (OpenSpec.ofChange Rows.fnExactTokensInSpec) :=
  OpenClaim.holds_of_wide 13 Try.f13 rfl rfl rfl rfl rfl rfl rfl ⟨rfl, rfl, rfl, rfl, rfl⟩ rfl rfl rfl rfl rfl (by kernel_rfl) Try.func13 (by kernel_rfl)
    (of_decide_eq_true (by kernel_rfl)) (by unfold Func.isWrapper; first | (rw [if_pos (by decide +kernel)]; kernel_rfl) | (rw [if_neg (by decide +kernel)]; exact ⟨rfl, rfl⟩))
    (fun os started H enc _ => lifted os started H enc)
theorem proved : Rows.FnExactTokensInSaid := over
end Go.Proofs.Ytpnfmbdiffjinaa.fnExactTokensIn
namespace Go.Proofs.Ytpnfmbdiffjinaa
/-- The row, under a short name, for the claim. -/
theorem fnExactTokensIn_holds : Rows.FnExactTokensInSaid := fnExactTokensIn.proved
#print axioms fnExactTokensIn_holds
end Go.Proofs.Ytpnfmbdiffjinaa
