/- The program's MeetBoth returns what the reference's returns, for all rows of tokens and all who meet; it writes into none and its list is new memory. The row, out of the contract of the law and the pure statement. -/
import Derived.Test.YtnphabcbnpenjaaRows
import Derived.Test.YtnphabcbnpenjaaXFnExactMeetBothx7
import Derived.Test.YtnphabcbnpenjaaPureFnExactMeetBoth
import Derived.Test.YtnphabcbnpenjaaOpenFnExactMeetBoth
import Derived.WalkKit
import Derived.ProofKit
import Derived.OpenShut
import Derived.ShutString
import Derived.ChangeOld
import Derived.Below
import Derived.SizedLaws
namespace Go.Proofs.Ytnphabcbnpenjaa.fnExactMeetBoth
open Go.ChangeShapes Go.WideShapes Go.ChangeAt Go.RowKit Go.Proofs.Ytnphabcbnpenjaa.Open Go.Proofs.YtnphabcbnpenjaaW.PrintWords Go.Proofs.Ytnphabcbnpenjaa.XFnExactMeetBoth
open Go.ChangeMaps (open_string shut_string)
set_option linter.unusedVariables false
theorem own : ownKnob Try.prog.godebug = none := by kernel_rfl
theorem laidOut : laidOutB Try.prog = true := by kernel_rfl
theorem opens_mono {α : Type} {P : Program} {W : World} {t : TypeId} {d : Kd α} {ok ok' : α → Prop} (h : Opens P W t d ok) (g : ∀ x, ok x → ok' x) : Opens P W t d ok' := ⟨h.1, fun H enc base spare held n cs y e => by
  obtain ⟨x, h1, h2⟩ := h.2 H enc base spare held n cs y e
  exact ⟨x, h1, g x h2⟩⟩
theorem p35 (W : World) : Opens Try.prog W 35 (Kd.pair (Kd.slice 3 (Kd.int .i64)) (Kd.pair (Kd.int .i64) Kd.bool)) (fun p => (p.1.length ≤ maxLen ∧ ∀ x ∈ p.1, (Lit.int .i64 x).wf = true) ∧ ((Lit.int .i64 p.2.1).wf = true) ∧ True) := by
  have h : Opens Try.prog W 35 _ _ := opens_struct Try.underlying35 (by kernel_rfl) (fs_cons (by rfl) (opens_slice (0 : Int) Try.underlying33 (by kernel_rfl) (opens_int Try.underlying3 (by kernel_rfl))) (fs_cons (by rfl) (opens_int Try.underlying3 (by kernel_rfl)) (fs_one (by rfl) (opens_bool Try.underlying4 (by kernel_rfl)))))
  exact opens_mono h (fun p h => h)
theorem p57 (W : World) : Opens Try.prog W 57 (Kd.pair (Kd.int .i64) (Kd.int .i64)) (fun p => ((Lit.int .i64 p.1).wf = true) ∧ ((Lit.int .i64 p.2).wf = true)) := by
  have h : Opens Try.prog W 57 _ _ := opens_struct Try.underlying57 (by kernel_rfl) (fs_cons (by rfl) (opens_int Try.underlying3 (by kernel_rfl)) (fs_one (by rfl) (opens_int Try.underlying3 (by kernel_rfl))))
  exact opens_mono h (fun p h => h)
set_option maxRecDepth 100000 in
theorem lifted (os : Os) (started : os.Started) (H : Type) (enc : TypeId × Value → H) :
    ReturnsInHanded {} Try.checked os 7 .any (Rows.fnExactMeetBothSpec.pre6 enc Try.prog Try.f7 Rows.fnExactMeetBothRow.domain false) (Rows.fnExactMeetBothSpec.post enc Try.prog Try.f7 false true false false) := by
  refine returnsInHanded_of_change_sized (C := Try.checked) own started (by kernel_rfl) Try.func7
    (ChangeSpec.witness6 (enc := enc) (C := Try.checked) false ⟨#[], #[.agg #[.slice none 0 0, .int .i64 0, .bool false], .agg #[.int .i64 0, .int .i64 0]], []⟩ 8 (by kernel_rfl) (by kernel_rfl) (by kernel_rfl) (by kernel_rfl)) ?_
  intro W base args ds gs before hval0 hW hcnd hsz0 _
  have hsz : (DataW.weightsEach Try.prog (Try.f7.params.toList ++ Rows.fnExactMeetBothSpec.plain.varTypes Try.prog) (ds ++ gs)).all (· ≤ reachBytes) = true := hsz0
  have hval : ∀ (j : Nat) t v, Try.f7.params[j]? = some t → args[j]? = some v → Value.okWide Try.prog W .any base t v := hval0
  have hW' := hW
  obtain ⟨p, q, hA0, hV, rfl, hfz, hnd⟩ := hW
  have hA : DataW.TrodAll enc Try.prog W 0 (fun _ => true) true Try.f7.params.toList args.toList ds p := hA0
  rw [Try.params7] at hA hval hsz
  obtain ⟨v0, vs0, d0, ds0, p0, q0, hargs, rfl, rfl, h0, r0⟩ := trodAll_cons hA
  obtain ⟨v1, vs1, d1, ds1, p1, q1, rfl, rfl, rfl, h1, r1⟩ := trodAll_cons r0
  obtain ⟨rfl, rfl, rfl⟩ := trodAll_nil r1
  obtain rfl : args = #[v0, v1] := by cases args; simp_all
  obtain ⟨rfl, rfl⟩ := trodVars_none hV
  have k0 := h0
  have lt0 : ∀ x ∈ p0, x.block < W.heap.size := by obtain ⟨m, hm⟩ := k0; exact DataW.trod_lt m _ _ _ hm
  obtain ⟨⟨l0_0, a0_1, a0_2⟩, ⟨_, _, e0, ⟨A0_0, c0_0, rfl, hc0_0, hr0_0⟩, ⟨_, _, rfl, rfl, rfl⟩⟩, ok0⟩ := opens_arg (p35 W) h0
  obtain rfl := agg_cells Try.underlying35 (hval 0 35 v0 rfl rfl) e0
  have k1 := h1
  have lt1 : ∀ x ∈ p1, x.block < W.heap.size := by obtain ⟨m, hm⟩ := k1; exact DataW.trod_lt m _ _ _ hm
  obtain ⟨⟨a1_0, a1_1⟩, ⟨_, _, e1, rfl, rfl⟩, ok1⟩ := opens_arg (p57 W) h1
  obtain rfl := agg_cells Try.underlying57 (hval 1 57 v1 rfl rfl) e1
  clear hA0 hval0 hsz0 hsz
  obtain ⟨k, hk⟩ := Pure.FnExactMeetBoth l0_0 a0_1 a0_2 a1_0 a1_1 ok0 ok1
  refine (XFnExactMeetBoth.laws_FnExactMeetBoth.calls k A0_0 c0_0 l0_0 a0_1 a0_2 a1_0 a1_1 true W hr0_0 hc0_0 hk).mono fun e W' ⟨he, bel0⟩ => ?_
  have bel : Below W.heap.size W W' := bel0
  subst he
  exact ⟨_, rfl, _, _, _, [], _, [], hW', trodAll_mk1 (shut_bool Try.underlying4 _), (trodAll_cons_mk (Below.trod laidOut (by kernel_rfl) (of_decide_eq_true (by kernel_rfl)) k0 bel lt0) (trodAll_cons_mk (Below.trod laidOut (by kernel_rfl) (of_decide_eq_true (by kernel_rfl)) k1 bel lt1) trodAll_mk0)), rfl, bel.frame _, fun h => by cases h⟩
theorem over : Rows.fnExactMeetBothRow.holds Try.pinned (OpenSpec.ofChange Rows.fnExactMeetBothSpec) :=
  OpenClaim.holds_of_wide 7 Try.f7 rfl rfl rfl rfl rfl rfl rfl ⟨rfl, rfl, rfl, rfl, rfl⟩ rfl rfl rfl rfl rfl (by kernel_rfl) Try.func7 (by kernel_rfl)
    (of_decide_eq_true (by kernel_rfl)) (by unfold Func.isWrapper; first | (rw [if_pos (by decide +kernel)]; kernel_rfl) | (rw [if_neg (by decide +kernel)]; exact ⟨rfl, rfl⟩))
    (fun os started H enc _ => lifted os started H enc)
theorem proved : Rows.FnExactMeetBothSaid := over
end Go.Proofs.Ytnphabcbnpenjaa.fnExactMeetBoth
namespace Go.Proofs.Ytnphabcbnpenjaa
/-- The row, under a short name, for the claim. -/
theorem fnExactMeetBoth_holds : Rows.FnExactMeetBothSaid := fnExactMeetBoth.proved
#print axioms fnExactMeetBoth_holds
end Go.Proofs.Ytnphabcbnpenjaa
