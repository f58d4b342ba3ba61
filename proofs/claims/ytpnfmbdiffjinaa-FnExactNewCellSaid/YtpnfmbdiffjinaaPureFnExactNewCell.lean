/- The program's NewCell returns what the reference's returns, for all whole numbers of 64 bits. -/
import Derived.Test.YtpnfmbdiffjinaaPFnExactNewCellx1
set_option linter.unusedVariables false
set_option linter.unusedSimpArgs false
namespace Go.Proofs.Ytpnfmbdiffjinaa.Pure
open Go.RowKit Go.Proofs.Ytpnfmbdiffjinaa.PFnExactNewCell Go.Proofs.YtpnfmbdiffjinaaW.PrintWords Go.Proofs.YtpnfmbdiffjinaaW.PrintLast

theorem in_eq (a b c : Int) : spec_l1In.f a b c = some (decide (b ≤ a ∧ a ≤ c)) := by
  unfold spec_l1In.f
  by_cases h : b ≤ a <;> simp [h]
theorem within_eq (a b c : Int) : impl_within.f a b c = some (decide (b ≤ a ∧ a ≤ c)) := by
  unfold impl_within.f
  by_cases h : b ≤ a <;> simp [h]
theorem sizes_eq (a b : Int) : spec_l13Sizes.f a b = some (decide ((1 ≤ a ∧ a ≤ 50) ∧ (1 ≤ b ∧ b ≤ 20))) := by
  unfold spec_l13Sizes.f
  simp only [in_eq, Option.bind_some]
  by_cases h : 1 ≤ a ∧ a ≤ 50 <;> simp [h]
theorem rate_eq (a b : Int) : impl_isRate.f a b = some (decide ((1 ≤ a ∧ a ≤ 50) ∧ (1 ≤ b ∧ b ≤ 20))) := by
  unfold impl_isRate.f
  simp only [within_eq, Option.bind_some]
  by_cases h : 1 ≤ a ∧ a ≤ 50 <;> simp [h]

theorem FnExactNewCell : laws_FnExactNewCell.Pure := by
  intro a b _ _
  unfold laws_FnExactNewCell.f spec_NewCell.f impl_NewCell.f laws_eqCell.f
  simp only [sizes_eq, rate_eq, Option.bind_some]
  by_cases h : ((1 ≤ a ∧ a ≤ 50) ∧ (1 ≤ b ∧ b ≤ 20))
  · simp [h]
  · simp [h]

end Go.Proofs.Ytpnfmbdiffjinaa.Pure
