/- The program's AskBucket returns what the reference's returns, for all buckets and times. -/
import Derived.Test.YtpnfmbdiffjinaaPFnExactAskBucketx1
set_option linter.unusedVariables false
set_option linter.unusedSimpArgs false
namespace Go.Proofs.Ytpnfmbdiffjinaa.Pure
open Go.RowKit Go.Proofs.Ytpnfmbdiffjinaa.PFnExactAskBucket Go.Proofs.YtpnfmbdiffjinaaW.PrintWords Go.Proofs.YtpnfmbdiffjinaaW.PrintLast Go.Proofs.YtpnfmbdiffjinaaW.PrintMore

/-- What is to be shown of FnExactAskBucket, in numbers and lists alone. -/
def laws_FnExactAskBucket.Stmt : Prop := ∀ (a0_0 : Int) (a0_1 : Int) (a0_2 : Int) (a0_3 : Int) (a1 : Int), (((Lit.int .i64 a0_0).wf = true) ∧ ((Lit.int .i64 a0_1).wf = true) ∧ ((Lit.int .i64 a0_2).wf = true) ∧ ((Lit.int .i64 a0_3).wf = true)) → ((Lit.int .i64 a1).wf = true) → laws_FnExactAskBucket.f a0_0 a0_1 a0_2 a0_3 a1 = some true

theorem in_eq (a b c : Int) : spec_l1In.f a b c = some (decide (b ≤ a ∧ a ≤ c)) := by
  unfold spec_l1In.f
  by_cases h : b ≤ a <;> simp [h]
theorem within_eq (a b c : Int) : impl_within.f a b c = some (decide (b ≤ a ∧ a ≤ c)) := by
  unfold impl_within.f
  by_cases h : b ≤ a <;> simp [h]
theorem sizes_eq (a b : Int) : spec_l13Sizes.f a b = some (decide ((1 ≤ a ∧ a ≤ 50) ∧ (1 ≤ b ∧ b ≤ 20))) := by
  unfold spec_l13Sizes.f
  simp only [in_eq, Option.bind_some]
  by_cases h : 1 ≤ a ∧ a ≤ 50 <;> simp [h]
theorem rate_eq (a b : Int) : impl_isRate.f a b = some (decide ((1 ≤ a ∧ a ≤ 50) ∧ (1 ≤ b ∧ b ≤ 20))) := by
  unfold impl_isRate.f
  simp only [within_eq, Option.bind_some]
  by_cases h : 1 ≤ a ∧ a ≤ 50 <;> simp [h]

theorem stime_eq (a : Int) : spec_l13Time.f a = some (decide (0 ≤ a ∧ a ≤ 1000000)) := by
  unfold spec_l13Time.f
  simp only [in_eq, Option.bind_some]
theorem itime_eq (a : Int) : impl_isTime.f a = some (decide (0 ≤ a ∧ a ≤ 1000000)) := by
  unfold impl_isTime.f
  simp only [within_eq, Option.bind_some]

theorem sgood_some (a b c d : Int) : ∃ v, spec_GoodBucket.f a b c d = some v := by
  unfold spec_GoodBucket.f
  simp only [sizes_eq, in_eq, stime_eq, Option.bind_some]
  repeat' split
  all_goals exact ⟨_, rfl⟩
theorem igood_eq (a b c d : Int) : impl_GoodBucket.f a b c d = spec_GoodBucket.f a b c d := by
  unfold impl_GoodBucket.f spec_GoodBucket.f
  simp only [rate_eq, sizes_eq, within_eq, in_eq, itime_eq, stime_eq, Option.bind_some]

theorem slevel_some (a b c d e : Int) : ∃ v, spec_LevelAt.f a b c d e = some v := by
  obtain ⟨v, hv⟩ := sgood_some a b c d
  unfold spec_LevelAt.f spec_l13Level.f
  simp only [hv, stime_eq, Option.bind_some]
  repeat' split
  all_goals exact ⟨_, rfl⟩
theorem ilevel_eq (a b c d e : Int) : impl_LevelAt.f a b c d e = spec_LevelAt.f a b c d e := by
  obtain ⟨v, hv⟩ := sgood_some a b c d
  unfold impl_LevelAt.f spec_LevelAt.f spec_l13Level.f
  simp only [igood_eq, hv, itime_eq, stime_eq, Option.bind_some]
  split
  · split
    · split
      · rfl
      · unfold mx
        split <;> split <;> simp <;> omega
    · rfl
  · rfl

theorem sask_some (a b c d e : Int) : ∃ v, spec_AskBucket.f a b c d e = some v := by
  obtain ⟨v, hv⟩ := slevel_some a b c d e
  unfold spec_AskBucket.f
  simp only [hv, Option.bind_some]
  repeat' split
  all_goals exact ⟨_, rfl⟩
theorem iask_eq (a b c d e : Int) : impl_AskBucket.f a b c d e = spec_AskBucket.f a b c d e := by
  unfold impl_AskBucket.f spec_AskBucket.f
  simp only [ilevel_eq]

theorem FnExactAskBucket : laws_FnExactAskBucket.Stmt := by
  intro a b c d e _ _
  obtain ⟨v, hv⟩ := sask_some a b c d e
  unfold laws_FnExactAskBucket.f laws_toBucket.f laws_eqBucket.f
  simp [iask_eq, hv]

end Go.Proofs.Ytpnfmbdiffjinaa.Pure
