/- The program's RunRounds returns what the reference's returns, for all arguments. The row, out of the contract of the law and the pure statement. -/
import Derived.Test.YteneeohaoplpbaaRows
import Derived.Test.YteneeohaoplpbaaXFnExactRunRoundsx10
import Derived.Test.YteneeohaoplpbaaPureFnExactRunRounds
import Derived.Test.YteneeohaoplpbaaOpenFnExactRunRounds
import Derived.WalkKit
import Derived.ProofKit
import Derived.OpenShut
import Derived.ShutString
import Derived.ChangeOld
import Derived.Below
import Derived.SizedLaws
namespace Go.Proofs.Yteneeohaoplpbaa.fnExactRunRounds
open Go.ChangeShapes Go.WideShapes Go.ChangeAt Go.RowKit Go.Proofs.Yteneeohaoplpbaa.Open Go.Proofs.YteneeohaoplpbaaW.PrintWords Go.Proofs.Yteneeohaoplpbaa.XFnExactRunRounds
open Go.ChangeMaps (open_string shut_string)
set_option linter.unusedVariables false
theorem own : ownKnob Try.prog.godebug = none := by kernel_rfl
theorem laidOut : laidOutB Try.prog = true := by kernel_rfl
theorem opens_mono {α : Type} {P : Program} {W : World} {t : TypeId} {d : Kd α} {ok ok' : α → Prop} (h : Opens P W t d ok) (g : ∀ x, ok x → ok' x) : Opens P W t d ok' := ⟨h.1, fun H enc base spare held n cs y e => by
  obtain ⟨x, h1, h2⟩ := h.2 H enc base spare held n cs y e
  exact ⟨x, h1, g x h2⟩⟩
theorem o167 {W : World} : Opens Try.prog W 167 k167 (fun x => (x.f0.length ≤ maxLen ∧ ∀ x' ∈ x.f0, (Lit.int .i64 x').wf = true) ∧ ((Lit.int .i64 x.f1).wf = true) ∧ ((Lit.int .i64 x.f2).wf = true)) := opens_iso (opens_struct Try.underlying167 (by kernel_rfl) (fs_cons (by rfl) (opens_slice (0 : Int) Try.underlying37 (by kernel_rfl) (opens_int Try.underlying3 (by kernel_rfl))) (fs_cons (by rfl) (opens_int Try.underlying3 (by kernel_rfl)) (fs_one (by rfl) (opens_int Try.underlying3 (by kernel_rfl)))))) (fun x : S167 => (x.f0, x.f1, x.f2)) (fun p => ⟨p.1, p.2.1, p.2.2⟩) (fun _ => rfl)
theorem p24 (W : World) : Opens Try.prog W 24 (Kd.pair (Kd.int .i64) (Kd.pair (Kd.slice 167 k167) (Kd.int .i64))) (fun p => ((Lit.int .i64 p.1).wf = true) ∧ (p.2.1.length ≤ maxLen ∧ ∀ x ∈ p.2.1, (x.f0.length ≤ maxLen ∧ ∀ x' ∈ x.f0, (Lit.int .i64 x').wf = true) ∧ ((Lit.int .i64 x.f1).wf = true) ∧ ((Lit.int .i64 x.f2).wf = true)) ∧ ((Lit.int .i64 p.2.2).wf = true)) := by
  have h : Opens Try.prog W 24 _ _ := opens_struct Try.underlying24 (by kernel_rfl) (fs_cons (by rfl) (opens_int Try.underlying3 (by kernel_rfl)) (fs_cons (by rfl) (opens_slice z167 Try.underlying22 (by kernel_rfl) o167) (fs_one (by rfl) (opens_int Try.underlying3 (by kernel_rfl)))))
  exact opens_mono h (fun p h => h)
set_option maxRecDepth 100000 in
theorem lifted (os : Os) (started : os.Started) (H : Type) (enc : TypeId × Value → H) :
    ReturnsInHanded {} Try.checked os 9 .any (Rows.fnExactRunRoundsSpec.pre6 enc Try.prog Try.f9 Rows.fnExactRunRoundsRow.domain false) (Rows.fnExactRunRoundsSpec.post enc Try.prog Try.f9 false true false false) := by
  refine returnsInHanded_of_change_sized (C := Try.checked) own started (by kernel_rfl) Try.func9
    (ChangeSpec.witness6 (enc := enc) (C := Try.checked) false ⟨#[], #[.agg #[.int .i64 0, .slice none 0 0, .int .i64 0], .int .i64 0], []⟩ 8 (by kernel_rfl) (by kernel_rfl) (by kernel_rfl) (by kernel_rfl)) ?_
  intro W base args ds gs before hval0 hW hcnd hsz0 _
  have hsz : (DataW.weightsEach Try.prog (Try.f9.params.toList ++ Rows.fnExactRunRoundsSpec.plain.varTypes Try.prog) (ds ++ gs)).all (· ≤ reachBytes) = true := hsz0
  have hval : ∀ (j : Nat) t v, Try.f9.params[j]? = some t → args[j]? = some v → Value.okWide Try.prog W .any base t v := hval0
  have hW' := hW
  obtain ⟨p, q, hA0, hV, rfl, hfz, hnd⟩ := hW
  have hA : DataW.TrodAll enc Try.prog W 0 (fun _ => true) true Try.f9.params.toList args.toList ds p := hA0
  rw [Try.params9] at hA hval hsz
  obtain ⟨v0, vs0, d0, ds0, p0, q0, hargs, rfl, rfl, h0, r0⟩ := trodAll_cons hA
  obtain ⟨v1, vs1, d1, ds1, p1, q1, rfl, rfl, rfl, h1, r1⟩ := trodAll_cons r0
  obtain ⟨rfl, rfl, rfl⟩ := trodAll_nil r1
  obtain rfl : args = #[v0, v1] := by cases args; simp_all
  obtain ⟨rfl, rfl⟩ := trodVars_none hV
  have k0 := h0
  have lt0 : ∀ x ∈ p0, x.block < W.heap.size := by obtain ⟨m, hm⟩ := k0; exact DataW.trod_lt m _ _ _ hm
  obtain ⟨⟨a0_0, l0_1, a0_2⟩, ⟨_, _, e0, rfl, ⟨_, _, rfl, ⟨A0_1, c0_1, rfl, hc0_1, hr0_1⟩, rfl⟩⟩, ok0⟩ := opens_arg (p24 W) h0
  obtain rfl := agg_cells Try.underlying24 (hval 0 24 v0 rfl rfl) e0
  have k1 := h1
  have lt1 : ∀ x ∈ p1, x.block < W.heap.size := by obtain ⟨m, hm⟩ := k1; exact DataW.trod_lt m _ _ _ hm
  obtain ⟨a1, rfl, rfl, rfl, ok1⟩ := open_int Try.underlying3 (hval 1 3 v1 rfl rfl) h1
  clear hA0 hval0 hsz0 hsz
  obtain ⟨k, hk⟩ := Pure.FnExactRunRounds a0_0 l0_1 a0_2 a1 ok0 ok1
  refine (XFnExactRunRounds.laws_FnExactRunRounds.calls k a0_0 A0_1 c0_1 l0_1 a0_2 a1 true W hr0_1 hc0_1 hk).mono fun e W' ⟨he, bel0⟩ => ?_
  have bel : Below W.heap.size W W' := bel0
  subst he
  exact ⟨_, rfl, _, _, _, [], _, [], hW', trodAll_mk1 (shut_bool Try.underlying4 _), (trodAll_cons_mk (Below.trod laidOut (by kernel_rfl) (of_decide_eq_true (by kernel_rfl)) k0 bel lt0) (trodAll_cons_mk (Below.trod laidOut (by kernel_rfl) (of_decide_eq_true (by kernel_rfl)) k1 bel lt1) trodAll_mk0)), rfl, bel.frame _, fun h => by cases h⟩
theorem named_ : Try.pinned.checked.prog.funcNamed Rows.fnExactRunRoundsRow.func = some 9 := by kernel_rfl
theorem closed_ : joinedFacts Try.pinned.checked.prog 9 Try.f9 Rows.fnExactRunRoundsSpec Rows.fnExactRunRoundsRow = true := by kernel_rfl
theorem over : Rows.fnExactRunRoundsRow.holds Try.pinned (OpenSpec.ofChange Rows.fnExactRunRoundsSpec) :=
  OpenClaim.holds_of_wide 9 Try.f9 rfl rfl rfl rfl rfl rfl rfl ⟨rfl, rfl, rfl, rfl, rfl⟩ rfl rfl rfl rfl rfl named_ Try.func9 closed_
    (of_decide_eq_true (by kernel_rfl)) (by unfold Func.isWrapper; first | (rw [if_pos (by decide +kernel)]; kernel_rfl) | (rw [if_neg (by decide +kernel)]; exact ⟨rfl, rfl⟩))
    (fun os started H enc _ => lifted os started H enc)
theorem proved : Rows.FnExactRunRoundsSaid := over
end Go.Proofs.Yteneeohaoplpbaa.fnExactRunRounds
namespace Go.Proofs.Yteneeohaoplpbaa
/-- The row, under a short name, for the claim. -/
theorem fnExactRunRounds_holds : Rows.FnExactRunRoundsSaid := fnExactRunRounds.proved
#print axioms fnExactRunRounds_holds
end Go.Proofs.Yteneeohaoplpbaa
