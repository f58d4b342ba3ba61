/- FnExactStepSession The row, out of the summary of the law and the pure statement. -/
import Derived.Test.YtkpgfoicmgnkeaaRows
import Derived.Test.YtkpgfoicmgnkeaaKE
import Derived.Test.YtkpgfoicmgnkeaaKPFnExactStepSession
import Derived.Test.YtkpgfoicmgnkeaaKT
import Derived.WalkKit
import Derived.ProofKit
import Derived.OpenShut
import Derived.ShutString
import Derived.ChangeOld
import Derived.Below
import Derived.SizedLaws
namespace Go.Proofs.Ytkpgfoicmgnkeaa.fnExactStepSession
open Go.Eng Go.ChangeShapes Go.WideShapes Go.ChangeAt Go.RowKit Go.Proofs.Ytkpgfoicmgnkeaa.Open Go.Proofs.YtkpgfoicmgnkeaaW.PrintWords
open Go.ChangeMaps (open_string shut_string)
set_option linter.unusedVariables false
theorem own : ownKnob Try.prog.godebug = none := by kernel_rfl
theorem laidOut : laidOutB Try.prog = true := by kernel_rfl
theorem o9 (W : World) : Opens Try.prog W 9 (Ty.kd .str) (okTy .str) := by
  have h : Opens Try.prog W 9 _ _ := (opens_string Try.underlying9 (by kernel_rfl))
  exact h
theorem o4 (W : World) : Opens Try.prog W 4 (Ty.kd .bool) (okTy .bool) := by
  have h : Opens Try.prog W 4 _ _ := (opens_bool Try.underlying4 (by kernel_rfl))
  exact h
theorem o26 (W : World) : Opens Try.prog W 26 (Ty.kd (.slice 4 .bool)) (okTy (.slice 4 .bool)) := by
  have h : Opens Try.prog W 26 _ _ := (opens_slice (false : (Bool)) Try.underlying26 (by kernel_rfl) (o4 W))
  exact h
theorem o3 (W : World) : Opens Try.prog W 3 (Ty.kd (.int .i64)) (okTy (.int .i64)) := by
  have h : Opens Try.prog W 3 _ _ := (opens_int Try.underlying3 (by kernel_rfl))
  exact h
theorem o117 (W : World) : Opens Try.prog W 117 (Ty.kd (.pair (.int .i64) (.pair (.int .i64) (.pair .str (.pair .bool (.slice 4 .bool)))))) (okTy (.pair (.int .i64) (.pair (.int .i64) (.pair .str (.pair .bool (.slice 4 .bool)))))) := by
  have h : Opens Try.prog W 117 _ _ := (opens_struct Try.underlying117 (by kernel_rfl) (fs_cons (by rfl) (o3 W) (fs_cons (by rfl) (o3 W) (fs_cons (by rfl) (o9 W) (fs_cons (by rfl) (o4 W) (fs_one (by rfl) (o26 W)))))))
  exact h
theorem o62 (W : World) : Opens Try.prog W 62 (Ty.kd (.slice 117 (.pair (.int .i64) (.pair (.int .i64) (.pair .str (.pair .bool (.slice 4 .bool))))))) (okTy (.slice 117 (.pair (.int .i64) (.pair (.int .i64) (.pair .str (.pair .bool (.slice 4 .bool))))))) := by
  have h : Opens Try.prog W 62 _ _ := (opens_slice ((0, 0, emp, false, []) : (Int × Int × ByteArray × Bool × List Bool)) Try.underlying62 (by kernel_rfl) (o117 W))
  exact h
theorem o64 (W : World) : Opens Try.prog W 64 (Ty.kd (.pair .str (.pair (.slice 4 .bool) (.pair (.slice 4 .bool) (.pair .str (.pair .bool (.pair (.slice 117 (.pair (.int .i64) (.pair (.int .i64) (.pair .str (.pair .bool (.slice 4 .bool)))))) (.slice 117 (.pair (.int .i64) (.pair (.int .i64) (.pair .str (.pair .bool (.slice 4 .bool))))))))))))) (okTy (.pair .str (.pair (.slice 4 .bool) (.pair (.slice 4 .bool) (.pair .str (.pair .bool (.pair (.slice 117 (.pair (.int .i64) (.pair (.int .i64) (.pair .str (.pair .bool (.slice 4 .bool)))))) (.slice 117 (.pair (.int .i64) (.pair (.int .i64) (.pair .str (.pair .bool (.slice 4 .bool))))))))))))) := by
  have h : Opens Try.prog W 64 _ _ := (opens_struct Try.underlying64 (by kernel_rfl) (fs_cons (by rfl) (o9 W) (fs_cons (by rfl) (o26 W) (fs_cons (by rfl) (o26 W) (fs_cons (by rfl) (o9 W) (fs_cons (by rfl) (o4 W) (fs_cons (by rfl) (o62 W) (fs_one (by rfl) (o62 W)))))))))
  exact h
theorem o65 (W : World) : Opens Try.prog W 65 (Ty.kd (.pair (.int .i64) (.pair .bool (.int .i64)))) (okTy (.pair (.int .i64) (.pair .bool (.int .i64)))) := by
  have h : Opens Try.prog W 65 _ _ := (opens_struct Try.underlying65 (by kernel_rfl) (fs_cons (by rfl) (o3 W) (fs_cons (by rfl) (o4 W) (fs_one (by rfl) (o3 W)))))
  exact h
set_option maxRecDepth 100000 in
theorem lifted (os : Os) (started : os.Started) (H : Type) (enc : TypeId × Value → H) :
    ReturnsInHanded {} Try.checked os 6 .any (Rows.fnExactStepSessionSpec.pre6 enc Try.prog Try.f6 Rows.fnExactStepSessionRow.domain false) (Rows.fnExactStepSessionSpec.post enc Try.prog Try.f6 false true false false) := by
  refine returnsInHanded_of_change_sized (C := Try.checked) own started (by kernel_rfl) Try.func6
    (ChangeSpec.witness6 (enc := enc) (C := Try.checked) false ⟨#[], #[.agg #[.string ⟨#[]⟩, .slice none 0 0, .slice none 0 0, .string ⟨#[]⟩, .bool false, .slice none 0 0, .slice none 0 0], .agg #[.int .i64 0, .bool false, .int .i64 0]], []⟩ 8 (by kernel_rfl) (by kernel_rfl) (by kernel_rfl) (by kernel_rfl)) ?_
  intro W base args ds gs before hval0 hW hcnd hsz0 _
  have hsz : (DataW.weightsEach Try.prog (Try.f6.params.toList ++ Rows.fnExactStepSessionSpec.plain.varTypes Try.prog) (ds ++ gs)).all (· ≤ reachBytes) = true := hsz0
  have hval : ∀ (j : Nat) t v, Try.f6.params[j]? = some t → args[j]? = some v → Value.okWide Try.prog W .any base t v := hval0
  have hW' := hW
  obtain ⟨p, q, hA0, hV, rfl, hfz, hnd⟩ := hW
  have hA : DataW.TrodAll enc Try.prog W 0 (fun _ => true) true Try.f6.params.toList args.toList ds p := hA0
  rw [Try.params6] at hA hval hsz
  obtain ⟨v0, vs0, d0, ds0, p0, q0, hargs, rfl, rfl, h0, r0⟩ := trodAll_cons hA
  obtain ⟨v1, vs1, d1, ds1, p1, q1, rfl, rfl, rfl, h1, r1⟩ := trodAll_cons r0
  obtain ⟨rfl, rfl, rfl⟩ := trodAll_nil r1
  obtain rfl : args = #[v0, v1] := by cases args; simp_all
  obtain ⟨rfl, rfl⟩ := trodVars_none hV
  have k0 := h0
  have lt0 : ∀ x ∈ p0, x.block < W.heap.size := by obtain ⟨m, hm⟩ := k0; exact DataW.trod_lt m _ _ _ hm
  obtain ⟨⟨a0_0, a0_1, a0_2, a0_3, a0_4, a0_5, a0_6⟩, ⟨_, _, e0, rfl, ⟨_, _, rfl, ⟨A0_1, c0_1, rfl, hc0_1, hr0_1⟩, ⟨_, _, rfl, ⟨A0_2, c0_2, rfl, hc0_2, hr0_2⟩, ⟨_, _, rfl, rfl, ⟨_, _, rfl, rfl, ⟨_, _, rfl, ⟨A0_5, c0_5, rfl, hc0_5, hr0_5⟩, ⟨A0_6, c0_6, rfl, hc0_6, hr0_6⟩⟩⟩⟩⟩⟩⟩, ok0⟩ := opens_arg (o64 W) h0
  obtain rfl := agg_cells Try.underlying64 (hval 0 64 v0 rfl rfl) e0
  have k1 := h1
  have lt1 : ∀ x ∈ p1, x.block < W.heap.size := by obtain ⟨m, hm⟩ := k1; exact DataW.trod_lt m _ _ _ hm
  obtain ⟨⟨a1_0, a1_1, a1_2⟩, ⟨_, _, e1, rfl, ⟨_, _, rfl, rfl, rfl⟩⟩, ok1⟩ := opens_arg (o65 W) h1
  obtain rfl := agg_cells Try.underlying65 (hval 1 65 v1 rfl rfl) e1
  clear hA0 hval0 hsz0 hsz
  have hk := Pure.FnExactStepSession a0_0 a0_1 a0_2 a0_3 a0_4 a0_5 a0_6 a1_0 a1_1 a1_2 ok0 ok1
  have hv : vsAll E0 L0 W [.agg (.acons (.sc .str a0_0) (.acons (.rd 4 .bool a0_1 []) (.acons (.rd 4 .bool a0_2 []) (.acons (.sc .str a0_3) (.acons (.sc .bool a0_4) (.acons (.rd 117 (.pair (.int .i64) (.pair (.int .i64) (.pair .str (.pair .bool (.slice 4 .bool))))) a0_5 []) (.acons (.rd 117 (.pair (.int .i64) (.pair (.int .i64) (.pair .str (.pair .bool (.slice 4 .bool))))) a0_6 []) .anil))))))), .agg (.acons (.sc (.int .i64) a1_0) (.acons (.sc .bool a1_1) (.acons (.sc (.int .i64) a1_2) .anil)))] _ := ⟨_, _, rfl, (by unfold vOk; exact ⟨_, rfl, (by unfold vsOk; exact ⟨_, _, rfl, sc0 rfl, (by unfold vsOk; exact ⟨_, _, rfl, rd0 hr0_1 hc0_1, (by unfold vsOk; exact ⟨_, _, rfl, rd0 hr0_2 hc0_2, (by unfold vsOk; exact ⟨_, _, rfl, sc0 rfl, (by unfold vsOk; exact ⟨_, _, rfl, sc0 rfl, (by unfold vsOk; exact ⟨_, _, rfl, rd0 hr0_5 hc0_5, (by unfold vsOk; exact ⟨_, _, rfl, rd0 hr0_6 hc0_6, (by unfold vsOk; rfl)⟩)⟩)⟩)⟩)⟩)⟩)⟩), (by simp [Value.oneCell'])⟩), ⟨_, _, rfl, (by unfold vOk; exact ⟨_, rfl, (by unfold vsOk; exact ⟨_, _, rfl, sc0 rfl, (by unfold vsOk; exact ⟨_, _, rfl, sc0 rfl, (by unfold vsOk; exact ⟨_, _, rfl, sc0 rfl, (by unfold vsOk; rfl)⟩)⟩)⟩), (by simp [Value.oneCell'])⟩), rfl⟩⟩
  refine (top_sum snd6 hv (a0_0, a0_1, a0_2, a0_3, a0_4, a0_5, a0_6, a1_0, a1_1, a1_2) true (by kernel_rfl) (by kernel_rfl) (by kernel_rfl) hk).mono fun e W' ⟨he, bel⟩ => ?_
  subst he
  exact ⟨_, rfl, _, _, _, [], _, [], hW', trodAll_mk1 (shut_bool Try.underlying4 _), (trodAll_cons_mk (Below.trod laidOut (by kernel_rfl) (of_decide_eq_true (by kernel_rfl)) k0 bel lt0) (trodAll_cons_mk (Below.trod laidOut (by kernel_rfl) (of_decide_eq_true (by kernel_rfl)) k1 bel lt1) trodAll_mk0)), rfl, bel.frame _, fun h => by cases h⟩
theorem named_ : Try.pinned.checked.prog.funcNamed Rows.fnExactStepSessionRow.func = some 6 := by kernel_rfl
theorem closed_ : joinedFacts Try.pinned.checked.prog 6 Try.f6 Rows.fnExactStepSessionSpec Rows.fnExactStepSessionRow = true := by kernel_rfl
theorem over : Rows.fnExactStepSessionRow.holds Try.pinned (OpenSpec.ofChange Rows.fnExactStepSessionSpec) :=
  OpenClaim.holds_of_wide 6 Try.f6 rfl rfl rfl rfl rfl rfl rfl ⟨rfl, rfl, rfl, rfl, rfl⟩ rfl rfl rfl rfl rfl named_ Try.func6 closed_
    (of_decide_eq_true (by kernel_rfl)) (by unfold Func.isWrapper; first | (rw [if_pos (by decide +kernel)]; kernel_rfl) | (rw [if_neg (by decide +kernel)]; exact ⟨rfl, rfl⟩))
    (fun os started H enc _ => lifted os started H enc)
theorem proved : Rows.FnExactStepSessionSaid := over
end Go.Proofs.Ytkpgfoicmgnkeaa.fnExactStepSession
namespace Go.Proofs.Ytkpgfoicmgnkeaa
/-- The row, under a short name, for the claim. -/
theorem fnExactStepSession_holds : Rows.FnExactStepSessionSaid := fnExactStepSession.proved
#print axioms fnExactStepSession_holds
end Go.Proofs.Ytkpgfoicmgnkeaa
