/- FnExactPlaySession The row, out of the summary of the law and the pure statement. -/
import Derived.Test.YtkpgfoicmgnkeaaRows
import Derived.Test.YtkpgfoicmgnkeaaKE
import Derived.Test.YtkpgfoicmgnkeaaKPFnExactPlaySession
import Derived.Test.YtkpgfoicmgnkeaaKT
import Derived.WalkKit
import Derived.ProofKit
import Derived.OpenShut
import Derived.ShutString
import Derived.ChangeOld
import Derived.Below
import Derived.SizedLaws
namespace Go.Proofs.Ytkpgfoicmgnkeaa.fnExactPlaySession
open Go.Eng Go.ChangeShapes Go.WideShapes Go.ChangeAt Go.RowKit Go.Proofs.Ytkpgfoicmgnkeaa.Open Go.Proofs.YtkpgfoicmgnkeaaW.PrintWords
open Go.ChangeMaps (open_string shut_string)
set_option linter.unusedVariables false
theorem own : ownKnob Try.prog.godebug = none := by kernel_rfl
theorem laidOut : laidOutB Try.prog = true := by kernel_rfl
theorem o9 (W : World) : Opens Try.prog W 9 (Ty.kd .str) (okTy .str) := by
  have h : Opens Try.prog W 9 _ _ := (opens_string Try.underlying9 (by kernel_rfl))
  exact h
theorem o3 (W : World) : Opens Try.prog W 3 (Ty.kd (.int .i64)) (okTy (.int .i64)) := by
  have h : Opens Try.prog W 3 _ _ := (opens_int Try.underlying3 (by kernel_rfl))
  exact h
theorem o4 (W : World) : Opens Try.prog W 4 (Ty.kd .bool) (okTy .bool) := by
  have h : Opens Try.prog W 4 _ _ := (opens_bool Try.underlying4 (by kernel_rfl))
  exact h
theorem o65 (W : World) : Opens Try.prog W 65 (Ty.kd (.pair (.int .i64) (.pair .bool (.int .i64)))) (okTy (.pair (.int .i64) (.pair .bool (.int .i64)))) := by
  have h : Opens Try.prog W 65 _ _ := (opens_struct Try.underlying65 (by kernel_rfl) (fs_cons (by rfl) (o3 W) (fs_cons (by rfl) (o4 W) (fs_one (by rfl) (o3 W)))))
  exact h
theorem o54 (W : World) : Opens Try.prog W 54 (Ty.kd (.slice 65 (.pair (.int .i64) (.pair .bool (.int .i64))))) (okTy (.slice 65 (.pair (.int .i64) (.pair .bool (.int .i64))))) := by
  have h : Opens Try.prog W 54 _ _ := (opens_slice ((0, false, 0) : (Int × Bool × Int)) Try.underlying54 (by kernel_rfl) (o65 W))
  exact h
set_option maxRecDepth 100000 in
theorem lifted (os : Os) (started : os.Started) (H : Type) (enc : TypeId × Value → H) :
    ReturnsInHanded {} Try.checked os 5 .any (Rows.fnExactPlaySessionSpec.pre6 enc Try.prog Try.f5 Rows.fnExactPlaySessionRow.domain false) (Rows.fnExactPlaySessionSpec.post enc Try.prog Try.f5 false true false false) := by
  refine returnsInHanded_of_change_sized (C := Try.checked) own started (by kernel_rfl) Try.func5
    (ChangeSpec.witness6 (enc := enc) (C := Try.checked) false ⟨#[], #[.string ⟨#[]⟩, .slice none 0 0], []⟩ 8 (by kernel_rfl) (by kernel_rfl) (by kernel_rfl) (by kernel_rfl)) ?_
  intro W base args ds gs before hval0 hW hcnd hsz0 _
  have hsz : (DataW.weightsEach Try.prog (Try.f5.params.toList ++ Rows.fnExactPlaySessionSpec.plain.varTypes Try.prog) (ds ++ gs)).all (· ≤ reachBytes) = true := hsz0
  have hval : ∀ (j : Nat) t v, Try.f5.params[j]? = some t → args[j]? = some v → Value.okWide Try.prog W .any base t v := hval0
  have hW' := hW
  obtain ⟨p, q, hA0, hV, rfl, hfz, hnd⟩ := hW
  have hA : DataW.TrodAll enc Try.prog W 0 (fun _ => true) true Try.f5.params.toList args.toList ds p := hA0
  rw [Try.params5] at hA hval hsz
  obtain ⟨v0, vs0, d0, ds0, p0, q0, hargs, rfl, rfl, h0, r0⟩ := trodAll_cons hA
  obtain ⟨v1, vs1, d1, ds1, p1, q1, rfl, rfl, rfl, h1, r1⟩ := trodAll_cons r0
  obtain ⟨rfl, rfl, rfl⟩ := trodAll_nil r1
  obtain rfl : args = #[v0, v1] := by cases args; simp_all
  obtain ⟨rfl, rfl⟩ := trodVars_none hV
  have k0 := h0
  have lt0 : ∀ x ∈ p0, x.block < W.heap.size := by obtain ⟨m, hm⟩ := k0; exact DataW.trod_lt m _ _ _ hm
  obtain ⟨a0, rfl, rfl, rfl, ok0⟩ := open_string Try.underlying9 (hval 0 9 v0 rfl rfl) h0
  have k1 := h1
  have lt1 : ∀ x ∈ p1, x.block < W.heap.size := by obtain ⟨m, hm⟩ := k1; exact DataW.trod_lt m _ _ _ hm
  obtain ⟨a1, ⟨A1, c1, e1, hc1, hr1⟩, ok1⟩ := opens_arg (o54 W) h1
  obtain rfl := slice_cells Try.underlying54 (hval 1 54 v1 rfl rfl) e1
  clear hA0 hval0 hsz0 hsz
  have hk := Pure.FnExactPlaySession a0 a1 ok0 ok1
  have hv : vsAll E0 L0 W [.sc .str a0, .rd 65 (.pair (.int .i64) (.pair .bool (.int .i64))) a1 []] _ := ⟨_, _, rfl, sc0 rfl, ⟨_, _, rfl, rd0 hr1 hc1, rfl⟩⟩
  refine (top_sum snd5 hv (a0, a1) true (by kernel_rfl) (by kernel_rfl) (by kernel_rfl) hk).mono fun e W' ⟨he, bel⟩ => ?_
  subst he
  exact ⟨_, rfl, _, _, _, [], _, [], hW', trodAll_mk1 (shut_bool Try.underlying4 _), (trodAll_cons_mk (Below.trod laidOut (by kernel_rfl) (of_decide_eq_true (by kernel_rfl)) k0 bel lt0) (trodAll_cons_mk (Below.trod laidOut (by kernel_rfl) (of_decide_eq_true (by kernel_rfl)) k1 bel lt1) trodAll_mk0)), rfl, bel.frame _, fun h => by cases h⟩
theorem named_ : Try.pinned.checked.prog.funcNamed Rows.fnExactPlaySessionRow.func = some 5 := by kernel_rfl
theorem closed_ : joinedFacts Try.pinned.checked.prog 5 Try.f5 Rows.fnExactPlaySessionSpec Rows.fnExactPlaySessionRow = true := by kernel_rfl
theorem over : Rows.fnExactPlaySessionRow.holds Try.pinned (OpenSpec.ofChange Rows.fnExactPlaySessionSpec) :=
  OpenClaim.holds_of_wide 5 Try.f5 rfl rfl rfl rfl rfl rfl rfl ⟨rfl, rfl, rfl, rfl, rfl⟩ rfl rfl rfl rfl rfl named_ Try.func5 closed_
    (of_decide_eq_true (by kernel_rfl)) (by unfold Func.isWrapper; first | (rw [if_pos (by decide +kernel)]; kernel_rfl) | (rw [if_neg (by decide +kernel)]; exact ⟨rfl, rfl⟩))
    (fun os started H enc _ => lifted os started H enc)
theorem proved : Rows.FnExactPlaySessionSaid := over
end Go.Proofs.Ytkpgfoicmgnkeaa.fnExactPlaySession
namespace Go.Proofs.Ytkpgfoicmgnkeaa
/-- The row, under a short name, for the claim. -/
theorem fnExactPlaySession_holds : Rows.FnExactPlaySessionSaid := fnExactPlaySession.proved
#print axioms fnExactPlaySession_holds
end Go.Proofs.Ytkpgfoicmgnkeaa
