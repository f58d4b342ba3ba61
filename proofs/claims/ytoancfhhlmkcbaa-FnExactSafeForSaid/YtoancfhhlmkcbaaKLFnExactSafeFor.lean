/- FnExactSafeFor The row, out of the summary of the law and the pure statement. -/
import Derived.Test.YtoancfhhlmkcbaaRows
import Derived.Test.YtoancfhhlmkcbaaKE
import Derived.Test.YtoancfhhlmkcbaaKPFnExactSafeFor
import Derived.Test.YtoancfhhlmkcbaaKT
import Derived.WalkKit
import Derived.ProofKit
import Derived.OpenShut
import Derived.ShutString
import Derived.ChangeOld
import Derived.Below
import Derived.SizedLaws
namespace Go.Proofs.Ytoancfhhlmkcbaa.fnExactSafeFor
open Go.Eng Go.ChangeShapes Go.WideShapes Go.ChangeAt Go.RowKit Go.Proofs.Ytoancfhhlmkcbaa.Open Go.Proofs.YtoancfhhlmkcbaaW.PrintWords
open Go.ChangeMaps (open_string shut_string)
set_option linter.unusedVariables false
theorem own : ownKnob Try.prog.godebug = none := by kernel_rfl
theorem laidOut : laidOutB Try.prog = true := by kernel_rfl
theorem o3 (W : World) : Opens Try.prog W 3 (Ty.kd (.int .i64)) (okTy (.int .i64)) := by
  have h : Opens Try.prog W 3 _ _ := (opens_int Try.underlying3 (by kernel_rfl))
  exact h
theorem o22 (W : World) : Opens Try.prog W 22 (Ty.kd (.slice 3 (.int .i64))) (okTy (.slice 3 (.int .i64))) := by
  have h : Opens Try.prog W 22 _ _ := (opens_slice (0 : (Int)) Try.underlying22 (by kernel_rfl) (o3 W))
  exact h
theorem o133 (W : World) : Opens Try.prog W 133 (Ty.kd (.pair (.int .i64) (.int .i64))) (okTy (.pair (.int .i64) (.int .i64))) := by
  have h : Opens Try.prog W 133 _ _ := (opens_struct Try.underlying133 (by kernel_rfl) (fs_cons (by rfl) (o3 W) (fs_one (by rfl) (o3 W))))
  exact h
theorem o99 (W : World) : Opens Try.prog W 99 (Ty.kd (.slice 133 (.pair (.int .i64) (.int .i64)))) (okTy (.slice 133 (.pair (.int .i64) (.int .i64)))) := by
  have h : Opens Try.prog W 99 _ _ := (opens_slice ((0, 0) : (Int × Int)) Try.underlying99 (by kernel_rfl) (o133 W))
  exact h
theorem o101 (W : World) : Opens Try.prog W 101 (Ty.kd (.pair (.slice 3 (.int .i64)) (.pair (.slice 133 (.pair (.int .i64) (.int .i64))) (.slice 3 (.int .i64))))) (okTy (.pair (.slice 3 (.int .i64)) (.pair (.slice 133 (.pair (.int .i64) (.int .i64))) (.slice 3 (.int .i64))))) := by
  have h : Opens Try.prog W 101 _ _ := (opens_struct Try.underlying101 (by kernel_rfl) (fs_cons (by rfl) (o22 W) (fs_cons (by rfl) (o99 W) (fs_one (by rfl) (o22 W)))))
  exact h
theorem o23 (W : World) : Opens Try.prog W 23 (Ty.kd (.slice 101 (.pair (.slice 3 (.int .i64)) (.pair (.slice 133 (.pair (.int .i64) (.int .i64))) (.slice 3 (.int .i64)))))) (okTy (.slice 101 (.pair (.slice 3 (.int .i64)) (.pair (.slice 133 (.pair (.int .i64) (.int .i64))) (.slice 3 (.int .i64)))))) := by
  have h : Opens Try.prog W 23 _ _ := (opens_slice (([], [], []) : (List Int × List (Int × Int) × List Int)) Try.underlying23 (by kernel_rfl) (o101 W))
  exact h
theorem o106 (W : World) : Opens Try.prog W 106 (Ty.kd (.pair (.int .i64) (.pair (.int .i64) (.pair (.int .i64) (.int .i64))))) (okTy (.pair (.int .i64) (.pair (.int .i64) (.pair (.int .i64) (.int .i64))))) := by
  have h : Opens Try.prog W 106 _ _ := (opens_struct Try.underlying106 (by kernel_rfl) (fs_cons (by rfl) (o3 W) (fs_cons (by rfl) (o3 W) (fs_cons (by rfl) (o3 W) (fs_one (by rfl) (o3 W))))))
  exact h
theorem o24 (W : World) : Opens Try.prog W 24 (Ty.kd (.slice 106 (.pair (.int .i64) (.pair (.int .i64) (.pair (.int .i64) (.int .i64)))))) (okTy (.slice 106 (.pair (.int .i64) (.pair (.int .i64) (.pair (.int .i64) (.int .i64)))))) := by
  have h : Opens Try.prog W 24 _ _ := (opens_slice ((0, 0, 0, 0) : (Int × Int × Int × Int)) Try.underlying24 (by kernel_rfl) (o106 W))
  exact h
theorem o26 (W : World) : Opens Try.prog W 26 (Ty.kd (.pair (.slice 3 (.int .i64)) (.pair (.slice 101 (.pair (.slice 3 (.int .i64)) (.pair (.slice 133 (.pair (.int .i64) (.int .i64))) (.slice 3 (.int .i64))))) (.pair (.slice 106 (.pair (.int .i64) (.pair (.int .i64) (.pair (.int .i64) (.int .i64))))) (.slice 3 (.int .i64)))))) (okTy (.pair (.slice 3 (.int .i64)) (.pair (.slice 101 (.pair (.slice 3 (.int .i64)) (.pair (.slice 133 (.pair (.int .i64) (.int .i64))) (.slice 3 (.int .i64))))) (.pair (.slice 106 (.pair (.int .i64) (.pair (.int .i64) (.pair (.int .i64) (.int .i64))))) (.slice 3 (.int .i64)))))) := by
  have h : Opens Try.prog W 26 _ _ := (opens_struct Try.underlying26 (by kernel_rfl) (fs_cons (by rfl) (o22 W) (fs_cons (by rfl) (o23 W) (fs_cons (by rfl) (o24 W) (fs_one (by rfl) (o22 W))))))
  exact h
set_option maxRecDepth 100000 in
theorem lifted (os : Os) (started : os.Started) (H : Type) (enc : TypeId × Value → H) :
    ReturnsInHanded {} Try.checked os 4 .any (Rows.fnExactSafeForSpec.pre6 enc Try.prog Try.f4 Rows.fnExactSafeForRow.domain false) (Rows.fnExactSafeForSpec.post enc Try.prog Try.f4 false true false false) := by
  refine returnsInHanded_of_change_sized (C := Try.checked) own started (by kernel_rfl) Try.func4
    (ChangeSpec.witness6 (enc := enc) (C := Try.checked) false ⟨#[], #[.agg #[.slice none 0 0, .slice none 0 0, .slice none 0 0, .slice none 0 0], .int .i64 0, .int .i64 0], []⟩ 8 (by kernel_rfl) (by kernel_rfl) (by kernel_rfl) (by kernel_rfl)) ?_
  intro W base args ds gs before hval0 hW hcnd hsz0 _
  have hsz : (DataW.weightsEach Try.prog (Try.f4.params.toList ++ Rows.fnExactSafeForSpec.plain.varTypes Try.prog) (ds ++ gs)).all (· ≤ reachBytes) = true := hsz0
  have hval : ∀ (j : Nat) t v, Try.f4.params[j]? = some t → args[j]? = some v → Value.okWide Try.prog W .any base t v := hval0
  have hW' := hW
  obtain ⟨p, q, hA0, hV, rfl, hfz, hnd⟩ := hW
  have hA : DataW.TrodAll enc Try.prog W 0 (fun _ => true) true Try.f4.params.toList args.toList ds p := hA0
  rw [Try.params4] at hA hval hsz
  obtain ⟨v0, vs0, d0, ds0, p0, q0, hargs, rfl, rfl, h0, r0⟩ := trodAll_cons hA
  obtain ⟨v1, vs1, d1, ds1, p1, q1, rfl, rfl, rfl, h1, r1⟩ := trodAll_cons r0
  obtain ⟨v2, vs2, d2, ds2, p2, q2, rfl, rfl, rfl, h2, r2⟩ := trodAll_cons r1
  obtain ⟨rfl, rfl, rfl⟩ := trodAll_nil r2
  obtain rfl : args = #[v0, v1, v2] := by cases args; simp_all
  obtain ⟨rfl, rfl⟩ := trodVars_none hV
  have k0 := h0
  have lt0 : ∀ x ∈ p0, x.block < W.heap.size := by obtain ⟨m, hm⟩ := k0; exact DataW.trod_lt m _ _ _ hm
  obtain ⟨⟨a0_0, a0_1, a0_2, a0_3⟩, ⟨_, _, e0, ⟨A0_0, c0_0, rfl, hc0_0, hr0_0⟩, ⟨_, _, rfl, ⟨A0_1, c0_1, rfl, hc0_1, hr0_1⟩, ⟨_, _, rfl, ⟨A0_2, c0_2, rfl, hc0_2, hr0_2⟩, ⟨A0_3, c0_3, rfl, hc0_3, hr0_3⟩⟩⟩⟩, ok0⟩ := opens_arg (o26 W) h0
  obtain rfl := agg_cells Try.underlying26 (hval 0 26 v0 rfl rfl) e0
  have k1 := h1
  have lt1 : ∀ x ∈ p1, x.block < W.heap.size := by obtain ⟨m, hm⟩ := k1; exact DataW.trod_lt m _ _ _ hm
  obtain ⟨a1, rfl, rfl, rfl, ok1⟩ := open_int Try.underlying3 (hval 1 3 v1 rfl rfl) h1
  have k2 := h2
  have lt2 : ∀ x ∈ p2, x.block < W.heap.size := by obtain ⟨m, hm⟩ := k2; exact DataW.trod_lt m _ _ _ hm
  obtain ⟨a2, rfl, rfl, rfl, ok2⟩ := open_int Try.underlying3 (hval 2 3 v2 rfl rfl) h2
  clear hA0 hval0 hsz0 hsz
  have hk := Pure.FnExactSafeFor a0_0 a0_1 a0_2 a0_3 a1 a2 ok0 ok1 ok2
  have hv : vsAll E0 L0 W [.agg (.acons (.rd 3 (.int .i64) a0_0 []) (.acons (.rd 101 (.pair (.slice 3 (.int .i64)) (.pair (.slice 133 (.pair (.int .i64) (.int .i64))) (.slice 3 (.int .i64)))) a0_1 []) (.acons (.rd 106 (.pair (.int .i64) (.pair (.int .i64) (.pair (.int .i64) (.int .i64)))) a0_2 []) (.acons (.rd 3 (.int .i64) a0_3 []) .anil)))), .sc (.int .i64) a1, .sc (.int .i64) a2] _ := ⟨_, _, rfl, (by unfold vOk; exact ⟨_, rfl, (by unfold vsOk; exact ⟨_, _, rfl, rd0 hr0_0 hc0_0, (by unfold vsOk; exact ⟨_, _, rfl, rd0 hr0_1 hc0_1, (by unfold vsOk; exact ⟨_, _, rfl, rd0 hr0_2 hc0_2, (by unfold vsOk; exact ⟨_, _, rfl, rd0 hr0_3 hc0_3, (by unfold vsOk; rfl)⟩)⟩)⟩)⟩), (by simp [Value.oneCell'])⟩), ⟨_, _, rfl, sc0 rfl, ⟨_, _, rfl, sc0 rfl, rfl⟩⟩⟩
  refine (top_sum snd4 hv (a0_0, a0_1, a0_2, a0_3, a1, a2) true (by kernel_rfl) (by kernel_rfl) (by kernel_rfl) hk).mono fun e W' ⟨he, bel⟩ => ?_
  subst he
  exact ⟨_, rfl, _, _, _, [], _, [], hW', trodAll_mk1 (shut_bool Try.underlying4 _), (trodAll_cons_mk (Below.trod laidOut (by kernel_rfl) (of_decide_eq_true (by kernel_rfl)) k0 bel lt0) (trodAll_cons_mk (Below.trod laidOut (by kernel_rfl) (of_decide_eq_true (by kernel_rfl)) k1 bel lt1) (trodAll_cons_mk (Below.trod laidOut (by kernel_rfl) (of_decide_eq_true (by kernel_rfl)) k2 bel lt2) trodAll_mk0))), rfl, bel.frame _, fun h => by cases h⟩
theorem named_ : Try.pinned.checked.prog.funcNamed Rows.fnExactSafeForRow.func = some 4 := by kernel_rfl
theorem closed_ : joinedFacts Try.pinned.checked.prog 4 Try.f4 Rows.fnExactSafeForSpec Rows.fnExactSafeForRow = true := by kernel_rfl
theorem over : Rows.fnExactSafeForRow.holds Try.pinned (OpenSpec.ofChange Rows.fnExactSafeForSpec) :=
  OpenClaim.holds_of_wide 4 Try.f4 rfl rfl rfl rfl rfl rfl rfl ⟨rfl, rfl, rfl, rfl, rfl⟩ rfl rfl rfl rfl rfl named_ Try.func4 closed_
    (of_decide_eq_true (by kernel_rfl)) (by unfold Func.isWrapper; first | (rw [if_pos (by decide +kernel)]; kernel_rfl) | (rw [if_neg (by decide +kernel)]; exact ⟨rfl, rfl⟩))
    (fun os started H enc _ => lifted os started H enc)
theorem proved : Rows.FnExactSafeForSaid := over
end Go.Proofs.Ytoancfhhlmkcbaa.fnExactSafeFor
namespace Go.Proofs.Ytoancfhhlmkcbaa
/-- The row, under a short name, for the claim. -/
theorem fnExactSafeFor_holds : Rows.FnExactSafeForSaid := fnExactSafeFor.proved
#print axioms fnExactSafeFor_holds
end Go.Proofs.Ytoancfhhlmkcbaa
