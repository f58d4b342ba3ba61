/- FnExactPlayCustody The row, out of the summary of the law and the pure statement. -/
import Derived.Test.YtoancfhhlmkcbaaRows
import Derived.Test.YtoancfhhlmkcbaaKE
import Derived.Test.YtoancfhhlmkcbaaKPFnExactPlayCustody
import Derived.Test.YtoancfhhlmkcbaaKT
import Derived.WalkKit
import Derived.ProofKit
import Derived.OpenShut
import Derived.ShutString
import Derived.ChangeOld
import Derived.Below
import Derived.SizedLaws
namespace Go.Proofs.Ytoancfhhlmkcbaa.fnExactPlayCustody
open Go.Eng Go.ChangeShapes Go.WideShapes Go.ChangeAt Go.RowKit Go.Proofs.Ytoancfhhlmkcbaa.Open Go.Proofs.YtoancfhhlmkcbaaW.PrintWords
open Go.ChangeMaps (open_string shut_string)
set_option linter.unusedVariables false
theorem own : ownKnob Try.prog.godebug = none := by kernel_rfl
theorem laidOut : laidOutB Try.prog = true := by kernel_rfl
theorem o3 (W : World) : Opens Try.prog W 3 (Ty.kd (.int .i64)) (okTy (.int .i64)) := by
  have h : Opens Try.prog W 3 _ _ := (opens_int Try.underlying3 (by kernel_rfl))
  exact h
theorem o22 (W : World) : Opens Try.prog W 22 (Ty.kd (.slice 3 (.int .i64))) (okTy (.slice 3 (.int .i64))) := by
  have h : Opens Try.prog W 22 _ _ := (opens_slice (0 : (Int)) Try.underlying22 (by kernel_rfl) (o3 W))
  exact h
theorem o94 (W : World) : Opens Try.prog W 94 (Ty.kd (.pair (.int .i64) (.pair (.int .i64) (.pair (.int .i64) (.int .i64))))) (okTy (.pair (.int .i64) (.pair (.int .i64) (.pair (.int .i64) (.int .i64))))) := by
  have h : Opens Try.prog W 94 _ _ := (opens_struct Try.underlying94 (by kernel_rfl) (fs_cons (by rfl) (o3 W) (fs_cons (by rfl) (o3 W) (fs_cons (by rfl) (o3 W) (fs_one (by rfl) (o3 W))))))
  exact h
theorem o52 (W : World) : Opens Try.prog W 52 (Ty.kd (.slice 94 (.pair (.int .i64) (.pair (.int .i64) (.pair (.int .i64) (.int .i64)))))) (okTy (.slice 94 (.pair (.int .i64) (.pair (.int .i64) (.pair (.int .i64) (.int .i64)))))) := by
  have h : Opens Try.prog W 52 _ _ := (opens_slice ((0, 0, 0, 0) : (Int × Int × Int × Int)) Try.underlying52 (by kernel_rfl) (o94 W))
  exact h
set_option maxRecDepth 100000 in
theorem lifted (os : Os) (started : os.Started) (H : Type) (enc : TypeId × Value → H) :
    ReturnsInHanded {} Try.checked os 6 .any (Rows.fnExactPlayCustodySpec.pre6 enc Try.prog Try.f6 Rows.fnExactPlayCustodyRow.domain false) (Rows.fnExactPlayCustodySpec.post enc Try.prog Try.f6 false true false false) := by
  refine returnsInHanded_of_change_sized (C := Try.checked) own started (by kernel_rfl) Try.func6
    (ChangeSpec.witness6 (enc := enc) (C := Try.checked) false ⟨#[], #[.slice none 0 0, .slice none 0 0], []⟩ 8 (by kernel_rfl) (by kernel_rfl) (by kernel_rfl) (by kernel_rfl)) ?_
  intro W base args ds gs before hval0 hW hcnd hsz0 _
  have hsz : (DataW.weightsEach Try.prog (Try.f6.params.toList ++ Rows.fnExactPlayCustodySpec.plain.varTypes Try.prog) (ds ++ gs)).all (· ≤ reachBytes) = true := hsz0
  have hval : ∀ (j : Nat) t v, Try.f6.params[j]? = some t → args[j]? = some v → Value.okWide Try.prog W .any base t v := hval0
  have hW' := hW
  obtain ⟨p, q, hA0, hV, rfl, hfz, hnd⟩ := hW
  have hA : DataW.TrodAll enc Try.prog W 0 (fun _ => true) true Try.f6.params.toList args.toList ds p := hA0
  rw [Try.params6] at hA hval hsz
  obtain ⟨v0, vs0, d0, ds0, p0, q0, hargs, rfl, rfl, h0, r0⟩ := trodAll_cons hA
  obtain ⟨v1, vs1, d1, ds1, p1, q1, rfl, rfl, rfl, h1, r1⟩ := trodAll_cons r0
  obtain ⟨rfl, rfl, rfl⟩ := trodAll_nil r1
  obtain rfl : args = #[v0, v1] := by cases args; simp_all
  obtain ⟨rfl, rfl⟩ := trodVars_none hV
  have k0 := h0
  have lt0 : ∀ x ∈ p0, x.block < W.heap.size := by obtain ⟨m, hm⟩ := k0; exact DataW.trod_lt m _ _ _ hm
  obtain ⟨a0, ⟨A0, c0, e0, hc0, hr0⟩, ok0⟩ := opens_arg (o22 W) h0
  obtain rfl := slice_cells Try.underlying22 (hval 0 22 v0 rfl rfl) e0
  have k1 := h1
  have lt1 : ∀ x ∈ p1, x.block < W.heap.size := by obtain ⟨m, hm⟩ := k1; exact DataW.trod_lt m _ _ _ hm
  obtain ⟨a1, ⟨A1, c1, e1, hc1, hr1⟩, ok1⟩ := opens_arg (o52 W) h1
  obtain rfl := slice_cells Try.underlying52 (hval 1 52 v1 rfl rfl) e1
  clear hA0 hval0 hsz0 hsz
  have hk := Pure.FnExactPlayCustody a0 a1 ok0 ok1
  have hv : vsAll E0 L0 W [.rd 3 (.int .i64) a0 [], .rd 94 (.pair (.int .i64) (.pair (.int .i64) (.pair (.int .i64) (.int .i64)))) a1 []] _ := ⟨_, _, rfl, rd0 hr0 hc0, ⟨_, _, rfl, rd0 hr1 hc1, rfl⟩⟩
  refine (top_sum snd6 hv (a0, a1) true (by kernel_rfl) (by kernel_rfl) (by kernel_rfl) hk).mono fun e W' ⟨he, bel⟩ => ?_
  subst he
  exact ⟨_, rfl, _, _, _, [], _, [], hW', trodAll_mk1 (shut_bool Try.underlying4 _), (trodAll_cons_mk (Below.trod laidOut (by kernel_rfl) (of_decide_eq_true (by kernel_rfl)) k0 bel lt0) (trodAll_cons_mk (Below.trod laidOut (by kernel_rfl) (of_decide_eq_true (by kernel_rfl)) k1 bel lt1) trodAll_mk0)), rfl, bel.frame _, fun h => by cases h⟩
theorem named_ : Try.pinned.checked.prog.funcNamed Rows.fnExactPlayCustodyRow.func = some 6 := by kernel_rfl
theorem closed_ : joinedFacts Try.pinned.checked.prog 6 Try.f6 Rows.fnExactPlayCustodySpec Rows.fnExactPlayCustodyRow = true := by kernel_rfl
theorem over : Rows.fnExactPlayCustodyRow.holds Try.pinned (OpenSpec.ofChange Rows.fnExactPlayCustodySpec) :=
  OpenClaim.holds_of_wide 6 Try.f6 rfl rfl rfl rfl rfl rfl rfl ⟨rfl, rfl, rfl, rfl, rfl⟩ rfl rfl rfl rfl rfl named_ Try.func6 closed_
    (of_decide_eq_true (by kernel_rfl)) (by unfold Func.isWrapper; first | (rw [if_pos (by decide +kernel)]; kernel_rfl) | (rw [if_neg (by decide +kernel)]; exact ⟨rfl, rfl⟩))
    (fun os started H enc _ => lifted os started H enc)
theorem proved : Rows.FnExactPlayCustodySaid := over
end Go.Proofs.Ytoancfhhlmkcbaa.fnExactPlayCustody
namespace Go.Proofs.Ytoancfhhlmkcbaa
/-- The row, under a short name, for the claim. -/
theorem fnExactPlayCustody_holds : Rows.FnExactPlayCustodySaid := fnExactPlayCustody.proved
#print axioms fnExactPlayCustody_holds
end Go.Proofs.Ytoancfhhlmkcbaa
