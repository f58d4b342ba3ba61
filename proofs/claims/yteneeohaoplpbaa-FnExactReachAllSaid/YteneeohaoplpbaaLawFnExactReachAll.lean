/- The program's ReachAll returns what the reference's returns, for all plans, bundles and lists of members; it writes into none and its lists are new memory. The row, out of the contract of the law and the pure statement. -/
import Derived.Test.YteneeohaoplpbaaRows
import Derived.Test.YteneeohaoplpbaaXFnExactReachAllx12
import Derived.Test.YteneeohaoplpbaaPureFnExactReachAll
import Derived.Test.YteneeohaoplpbaaOpenFnExactReachAll
import Derived.WalkKit
import Derived.ProofKit
import Derived.OpenShut
import Derived.ShutString
import Derived.ChangeOld
import Derived.Below
import Derived.SizedLaws
namespace Go.Proofs.Yteneeohaoplpbaa.fnExactReachAll
open Go.ChangeShapes Go.WideShapes Go.ChangeAt Go.RowKit Go.Proofs.Yteneeohaoplpbaa.Open Go.Proofs.YteneeohaoplpbaaW.PrintWords Go.Proofs.Yteneeohaoplpbaa.XFnExactReachAll
open Go.ChangeMaps (open_string shut_string)
set_option linter.unusedVariables false
theorem own : ownKnob Try.prog.godebug = none := by kernel_rfl
theorem laidOut : laidOutB Try.prog = true := by kernel_rfl
theorem opens_mono {α : Type} {P : Program} {W : World} {t : TypeId} {d : Kd α} {ok ok' : α → Prop} (h : Opens P W t d ok) (g : ∀ x, ok x → ok' x) : Opens P W t d ok' := ⟨h.1, fun H enc base spare held n cs y e => by
  obtain ⟨x, h1, h2⟩ := h.2 H enc base spare held n cs y e
  exact ⟨x, h1, g x h2⟩⟩
theorem o125 {W : World} : Opens Try.prog W 125 k125 (fun x => ((Lit.int .i64 x.f0).wf = true) ∧ ((Lit.int .i64 x.f1).wf = true) ∧ ((Lit.int .i64 x.f2).wf = true) ∧ ((Lit.int .i64 x.f3).wf = true) ∧ ((Lit.int .i64 x.f4).wf = true)) := opens_iso (opens_struct Try.underlying125 (by kernel_rfl) (fs_cons (by rfl) (opens_int Try.underlying3 (by kernel_rfl)) (fs_cons (by rfl) (opens_int Try.underlying3 (by kernel_rfl)) (fs_cons (by rfl) (opens_int Try.underlying3 (by kernel_rfl)) (fs_cons (by rfl) (opens_int Try.underlying3 (by kernel_rfl)) (fs_one (by rfl) (opens_int Try.underlying3 (by kernel_rfl)))))))) (fun x : S125 => (x.f0, x.f1, x.f2, x.f3, x.f4)) (fun p => ⟨p.1, p.2.1, p.2.2.1, p.2.2.2.1, p.2.2.2.2⟩) (fun _ => rfl)
theorem p82 (W : World) : Opens Try.prog W 82 (Kd.pair (Kd.int .i64) (Kd.pair (Kd.int .i64) (Kd.pair Kd.bool (Kd.pair (Kd.int .i64) (Kd.pair (Kd.int .i64) (Kd.pair (Kd.int .i64) (Kd.pair (Kd.int .i64) (Kd.pair (Kd.int .i64) (Kd.pair (Kd.int .i64) Kd.string))))))))) (fun p => ((Lit.int .i64 p.1).wf = true) ∧ ((Lit.int .i64 p.2.1).wf = true) ∧ True ∧ ((Lit.int .i64 p.2.2.2.1).wf = true) ∧ ((Lit.int .i64 p.2.2.2.2.1).wf = true) ∧ ((Lit.int .i64 p.2.2.2.2.2.1).wf = true) ∧ ((Lit.int .i64 p.2.2.2.2.2.2.1).wf = true) ∧ ((Lit.int .i64 p.2.2.2.2.2.2.2.1).wf = true) ∧ ((Lit.int .i64 p.2.2.2.2.2.2.2.2.1).wf = true) ∧ (p.2.2.2.2.2.2.2.2.2.size ≤ maxLen)) := by
  have h : Opens Try.prog W 82 _ _ := opens_struct Try.underlying82 (by kernel_rfl) (fs_cons (by rfl) (opens_int Try.underlying3 (by kernel_rfl)) (fs_cons (by rfl) (opens_int Try.underlying3 (by kernel_rfl)) (fs_cons (by rfl) (opens_bool Try.underlying4 (by kernel_rfl)) (fs_cons (by rfl) (opens_int Try.underlying3 (by kernel_rfl)) (fs_cons (by rfl) (opens_int Try.underlying3 (by kernel_rfl)) (fs_cons (by rfl) (opens_int Try.underlying3 (by kernel_rfl)) (fs_cons (by rfl) (opens_int Try.underlying3 (by kernel_rfl)) (fs_cons (by rfl) (opens_int Try.underlying3 (by kernel_rfl)) (fs_cons (by rfl) (opens_int Try.underlying3 (by kernel_rfl)) (fs_one (by rfl) (opens_string Try.underlying9 (by kernel_rfl))))))))))))
  exact opens_mono h (fun p h => h)
set_option maxRecDepth 100000 in
theorem lifted (os : Os) (started : os.Started) (H : Type) (enc : TypeId × Value → H) :
    ReturnsInHanded {} Try.checked os 13 .any (Rows.fnExactReachAllSpec.pre6 enc Try.prog Try.f13 Rows.fnExactReachAllRow.domain false) (Rows.fnExactReachAllSpec.post enc Try.prog Try.f13 false true false false) := by
  refine returnsInHanded_of_change_sized (C := Try.checked) own started (by kernel_rfl) Try.func13
    (ChangeSpec.witness6 (enc := enc) (C := Try.checked) false ⟨#[], #[.slice none 0 0, .agg #[.int .i64 0, .int .i64 0, .bool false, .int .i64 0, .int .i64 0, .int .i64 0, .int .i64 0, .int .i64 0, .int .i64 0, .string ⟨#[]⟩], .slice none 0 0], []⟩ 8 (by kernel_rfl) (by kernel_rfl) (by kernel_rfl) (by kernel_rfl)) ?_
  intro W base args ds gs before hval0 hW hcnd hsz0 _
  have hsz : (DataW.weightsEach Try.prog (Try.f13.params.toList ++ Rows.fnExactReachAllSpec.plain.varTypes Try.prog) (ds ++ gs)).all (· ≤ reachBytes) = true := hsz0
  have hval : ∀ (j : Nat) t v, Try.f13.params[j]? = some t → args[j]? = some v → Value.okWide Try.prog W .any base t v := hval0
  have hW' := hW
  obtain ⟨p, q, hA0, hV, rfl, hfz, hnd⟩ := hW
  have hA : DataW.TrodAll enc Try.prog W 0 (fun _ => true) true Try.f13.params.toList args.toList ds p := hA0
  rw [Try.params13] at hA hval hsz
  obtain ⟨v0, vs0, d0, ds0, p0, q0, hargs, rfl, rfl, h0, r0⟩ := trodAll_cons hA
  obtain ⟨v1, vs1, d1, ds1, p1, q1, rfl, rfl, rfl, h1, r1⟩ := trodAll_cons r0
  obtain ⟨v2, vs2, d2, ds2, p2, q2, rfl, rfl, rfl, h2, r2⟩ := trodAll_cons r1
  obtain ⟨rfl, rfl, rfl⟩ := trodAll_nil r2
  obtain rfl : args = #[v0, v1, v2] := by cases args; simp_all
  obtain ⟨rfl, rfl⟩ := trodVars_none hV
  have k0 := h0
  have lt0 : ∀ x ∈ p0, x.block < W.heap.size := by obtain ⟨m, hm⟩ := k0; exact DataW.trod_lt m _ _ _ hm
  obtain ⟨l0, ⟨A0, c0, e0, hc0, hr0⟩, ok0⟩ := opens_arg (opens_slice z125 Try.underlying35 (by kernel_rfl) o125 : Opens Try.prog W 35 (Kd.slice 125 k125) _) h0
  obtain rfl := slice_cells Try.underlying35 (hval 0 35 v0 rfl rfl) e0
  have k1 := h1
  have lt1 : ∀ x ∈ p1, x.block < W.heap.size := by obtain ⟨m, hm⟩ := k1; exact DataW.trod_lt m _ _ _ hm
  obtain ⟨⟨a1_0, a1_1, a1_2, a1_3, a1_4, a1_5, a1_6, a1_7, a1_8, a1_9⟩, ⟨_, _, e1, rfl, ⟨_, _, rfl, rfl, ⟨_, _, rfl, rfl, ⟨_, _, rfl, rfl, ⟨_, _, rfl, rfl, ⟨_, _, rfl, rfl, ⟨_, _, rfl, rfl, ⟨_, _, rfl, rfl, ⟨_, _, rfl, rfl, rfl⟩⟩⟩⟩⟩⟩⟩⟩⟩, ok1⟩ := opens_arg (p82 W) h1
  obtain rfl := agg_cells Try.underlying82 (hval 1 82 v1 rfl rfl) e1
  have k2 := h2
  have lt2 : ∀ x ∈ p2, x.block < W.heap.size := by obtain ⟨m, hm⟩ := k2; exact DataW.trod_lt m _ _ _ hm
  obtain ⟨l2, ⟨A2, c2, e2, hc2, hr2⟩, ok2⟩ := opens_arg (opens_slice (0 : Int) Try.underlying37 (by kernel_rfl) (opens_int Try.underlying3 (by kernel_rfl)) : Opens Try.prog W 37 (Kd.slice 3 (Kd.int .i64)) _) h2
  obtain rfl := slice_cells Try.underlying37 (hval 2 37 v2 rfl rfl) e2
  clear hA0 hval0 hsz0 hsz
  obtain ⟨k, hk⟩ := Pure.FnExactReachAll l0 a1_0 a1_1 a1_2 a1_3 a1_4 a1_5 a1_6 a1_7 a1_8 a1_9 l2 ok0 ok1 ok2
  refine (XFnExactReachAll.laws_FnExactReachAll.calls k A0 c0 l0 a1_0 a1_1 a1_2 a1_3 a1_4 a1_5 a1_6 a1_7 a1_8 a1_9 A2 c2 l2 true W hr0 hc0 hr2 hc2 hk).mono fun e W' ⟨he, bel0⟩ => ?_
  have bel : Below W.heap.size W W' := bel0
  subst he
  exact ⟨_, rfl, _, _, _, [], _, [], hW', trodAll_mk1 (shut_bool Try.underlying4 _), (trodAll_cons_mk (Below.trod laidOut (by kernel_rfl) (of_decide_eq_true (by kernel_rfl)) k0 bel lt0) (trodAll_cons_mk (Below.trod laidOut (by kernel_rfl) (of_decide_eq_true (by kernel_rfl)) k1 bel lt1) (trodAll_cons_mk (Below.trod laidOut (by kernel_rfl) (of_decide_eq_true (by kernel_rfl)) k2 bel lt2) trodAll_mk0))), rfl, bel.frame _, fun h => by cases h⟩
theorem named_ : Try.pinned.checked.prog.funcNamed Rows.fnExactReachAllRow.func = some 13 := by kernel_rfl
theorem closed_ : joinedFacts Try.pinned.checked.prog 13 Try.f13 Rows.fnExactReachAllSpec Rows.fnExactReachAllRow = true := by kernel_rfl
theorem over : Rows.fnExactReachAllRow.holds Try.pinned (OpenSpec.ofChange Rows.fnExactReachAllSpec) :=
  OpenClaim.holds_of_wide 13 Try.f13 rfl rfl rfl rfl rfl rfl rfl ⟨rfl, rfl, rfl, rfl, rfl⟩ rfl rfl rfl rfl rfl named_ Try.func13 closed_
    (of_decide_eq_true (by kernel_rfl)) (by unfold Func.isWrapper; first | (rw [if_pos (by decide +kernel)]; kernel_rfl) | (rw [if_neg (by decide +kernel)]; exact ⟨rfl, rfl⟩))
    (fun os started H enc _ => lifted os started H enc)
theorem proved : Rows.FnExactReachAllSaid := over
end Go.Proofs.Yteneeohaoplpbaa.fnExactReachAll
namespace Go.Proofs.Yteneeohaoplpbaa
/-- The row, under a short name, for the claim. -/
theorem fnExactReachAll_holds : Rows.FnExactReachAllSaid := fnExactReachAll.proved
#print axioms fnExactReachAll_holds
end Go.Proofs.Yteneeohaoplpbaa
