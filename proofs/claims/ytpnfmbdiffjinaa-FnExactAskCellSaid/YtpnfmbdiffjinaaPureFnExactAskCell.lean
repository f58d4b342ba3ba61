/- The program's AskCell returns what the reference's returns, for all cells and times. -/
import Derived.Test.YtpnfmbdiffjinaaPFnExactAskCellx1
set_option linter.unusedVariables false
set_option linter.unusedSimpArgs false
namespace Go.Proofs.Ytpnfmbdiffjinaa.Pure
open Go.RowKit Go.Proofs.Ytpnfmbdiffjinaa.PFnExactAskCell Go.Proofs.YtpnfmbdiffjinaaW.PrintWords Go.Proofs.YtpnfmbdiffjinaaW.PrintLast Go.Proofs.YtpnfmbdiffjinaaW.PrintMore

/-- What is to be shown of FnExactAskCell, in numbers and lists alone. -/
def laws_FnExactAskCell.Stmt : Prop := ∀ (a0_0 : Int) (a0_1 : Int) (a0_2 : Int) (a1 : Int), (((Lit.int .i64 a0_0).wf = true) ∧ ((Lit.int .i64 a0_1).wf = true) ∧ ((Lit.int .i64 a0_2).wf = true)) → ((Lit.int .i64 a1).wf = true) → ∃ k, laws_FnExactAskCell.f k a0_0 a0_1 a0_2 a1 = some true

theorem in_eq (a b c : Int) : spec_l1In.f a b c = some (decide (b ≤ a ∧ a ≤ c)) := by
  unfold spec_l1In.f
  by_cases h : b ≤ a <;> simp [h]
theorem within_eq (a b c : Int) : impl_within.f a b c = some (decide (b ≤ a ∧ a ≤ c)) := by
  unfold impl_within.f
  by_cases h : b ≤ a <;> simp [h]
theorem sizes_eq (a b : Int) : spec_l13Sizes.f a b = some (decide ((1 ≤ a ∧ a ≤ 50) ∧ (1 ≤ b ∧ b ≤ 20))) := by
  unfold spec_l13Sizes.f
  simp only [in_eq, Option.bind_some]
  by_cases h : 1 ≤ a ∧ a ≤ 50 <;> simp [h]
theorem rate_eq (a b : Int) : impl_isRate.f a b = some (decide ((1 ≤ a ∧ a ≤ 50) ∧ (1 ≤ b ∧ b ≤ 20))) := by
  unfold impl_isRate.f
  simp only [within_eq, Option.bind_some]
  by_cases h : 1 ≤ a ∧ a ≤ 50 <;> simp [h]

theorem stime_eq (a : Int) : spec_l13Time.f a = some (decide (0 ≤ a ∧ a ≤ 1000000)) := by
  unfold spec_l13Time.f
  simp only [in_eq, Option.bind_some]
theorem itime_eq (a : Int) : impl_isTime.f a = some (decide (0 ≤ a ∧ a ≤ 1000000)) := by
  unfold impl_isTime.f
  simp only [within_eq, Option.bind_some]

theorem sgoodc_some (a b c : Int) : ∃ v, spec_GoodCell.f a b c = some v := by
  unfold spec_GoodCell.f
  simp only [sizes_eq, in_eq, Option.bind_some]
  repeat' split
  all_goals exact ⟨_, rfl⟩
theorem igoodc_eq (a b c : Int) : impl_GoodCell.f a b c = spec_GoodCell.f a b c := by
  unfold impl_GoodCell.f spec_GoodCell.f
  simp only [rate_eq, sizes_eq, within_eq, in_eq, Option.bind_some]
theorem saskc_j (k : Nat) (e : Int) (t : Bool) (a b c : Int) : ∃ v, spec_AskCell.j0 (k + 1) e t a b c = some v := by
  simp only [spec_AskCell.j0]
  repeat' split
  all_goals exact ⟨_, rfl⟩
theorem iaskc_j (k : Nat) (e : Int) (t : Bool) (a b c : Int) : impl_AskCell.j0 (k + 1) e t a b c = spec_AskCell.j0 (k + 1) e t a b c := by
  simp only [spec_AskCell.j0, impl_AskCell.j0, mx]
  split
  · rfl
  · split
    · rfl
    · by_cases h : c < e
      · rw [if_pos h, if_pos (by omega)]
      · rw [if_neg h, if_neg (by omega)]
theorem saskc_some (k : Nat) (a b c e : Int) : ∃ v, spec_AskCell.f (k + 1) a b c e = some v := by
  obtain ⟨v, hv⟩ := sgoodc_some a b c
  unfold spec_AskCell.f
  simp only [hv, stime_eq, Option.bind_some]
  split <;> exact saskc_j _ _ _ _ _ _
theorem iaskc_eq (k : Nat) (a b c e : Int) : impl_AskCell.f (k + 1) a b c e = spec_AskCell.f (k + 1) a b c e := by
  unfold impl_AskCell.f spec_AskCell.f
  simp only [igoodc_eq, itime_eq, stime_eq, iaskc_j]

theorem FnExactAskCell : laws_FnExactAskCell.Stmt := by
  intro a b c e _ _
  refine ⟨1, ?_⟩
  obtain ⟨v, hv⟩ := saskc_some 0 a b c e
  unfold laws_FnExactAskCell.f laws_toCell.f laws_eqCell.f
  have h2 := iaskc_eq 0 a b c e
  simp only [Nat.zero_add] at hv h2
  simp [h2, hv]

end Go.Proofs.Ytpnfmbdiffjinaa.Pure
