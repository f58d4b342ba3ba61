/- What leaks and what is due tell the same, time by time, for all bytes that the times and cells are drawn from. -/
import Derived.Test.YtnphabcbnpenjaaXFnGcrax6
set_option linter.unusedVariables false
set_option linter.unusedSimpArgs false
namespace Go.Proofs.Ytnphabcbnpenjaa.Pure
open Go.RowKit Go.Proofs.Ytnphabcbnpenjaa.XFnGcra Go.Proofs.YtnphabcbnpenjaaW.PrintWords Go.Proofs.YtnphabcbnpenjaaW.PrintLast Go.Proofs.YtnphabcbnpenjaaW.PrintMore

/-- What is to be shown of FnGcra, in numbers and lists alone. -/
def laws_FnGcra.Stmt : Prop := ∀ (l0 : List Int) (l1 : List Int), (l0.length ≤ maxLen ∧ ∀ x ∈ l0, (Lit.int .u8 x).wf = true) → (l1.length ≤ maxLen ∧ ∀ x ∈ l1, (Lit.int .u8 x).wf = true) → ∃ k, laws_FnGcra.f k l0 l1 = some true

theorem wrap_in {x : Int} (h0 : -9223372036854775808 ≤ x) (h1 : x ≤ 9223372036854775807) : wrap64 x = x := by
  unfold wrap64
  omega
theorem wrap_succ {i n : Nat} (h : i < n) (hn : n ≤ 9223372036854775807) : wrap64 ((i : Int) + 1) = ((i + 1 : Nat) : Int) := by
  rw [wrap_in (by omega) (by omega)]
  omega

theorem in_eq (a b c : Int) : spec_l1In.f a b c = some (decide (b ≤ a ∧ a ≤ c)) := by
  unfold spec_l1In.f
  by_cases h : b ≤ a <;> simp [h]
theorem within_eq (a b c : Int) : impl_within.f a b c = some (decide (b ≤ a ∧ a ≤ c)) := by
  unfold impl_within.f
  by_cases h : b ≤ a <;> simp [h]
theorem sizes_eq (a b : Int) : spec_l13Sizes.f a b = some (decide ((1 ≤ a ∧ a ≤ 50) ∧ (1 ≤ b ∧ b ≤ 20))) := by
  unfold spec_l13Sizes.f
  simp only [in_eq, Option.bind_some]
  by_cases h : 1 ≤ a ∧ a ≤ 50 <;> simp [h]
theorem rate_eq (a b : Int) : impl_isRate.f a b = some (decide ((1 ≤ a ∧ a ≤ 50) ∧ (1 ≤ b ∧ b ≤ 20))) := by
  unfold impl_isRate.f
  simp only [within_eq, Option.bind_some]
  by_cases h : 1 ≤ a ∧ a ≤ 50 <;> simp [h]

theorem stime_eq (a : Int) : spec_l13Time.f a = some (decide (0 ≤ a ∧ a ≤ 1000000)) := by
  unfold spec_l13Time.f
  simp only [in_eq, Option.bind_some]
theorem itime_eq (a : Int) : impl_isTime.f a = some (decide (0 ≤ a ∧ a ≤ 1000000)) := by
  unfold impl_isTime.f
  simp only [within_eq, Option.bind_some]

theorem sgood_some (a b c d : Int) : ∃ v, spec_GoodBucket.f a b c d = some v := by
  unfold spec_GoodBucket.f
  simp only [sizes_eq, in_eq, stime_eq, Option.bind_some]
  repeat' split
  all_goals exact ⟨_, rfl⟩
theorem igood_eq (a b c d : Int) : impl_GoodBucket.f a b c d = spec_GoodBucket.f a b c d := by
  unfold impl_GoodBucket.f spec_GoodBucket.f
  simp only [rate_eq, sizes_eq, within_eq, in_eq, itime_eq, stime_eq, Option.bind_some]

theorem slevel_some (a b c d e : Int) : ∃ v, spec_LevelAt.f a b c d e = some v := by
  obtain ⟨v, hv⟩ := sgood_some a b c d
  unfold spec_LevelAt.f spec_l13Level.f
  simp only [hv, stime_eq, Option.bind_some]
  repeat' split
  all_goals exact ⟨_, rfl⟩
theorem ilevel_eq (a b c d e : Int) : impl_LevelAt.f a b c d e = spec_LevelAt.f a b c d e := by
  obtain ⟨v, hv⟩ := sgood_some a b c d
  unfold impl_LevelAt.f spec_LevelAt.f spec_l13Level.f
  simp only [igood_eq, hv, itime_eq, stime_eq, Option.bind_some]
  split
  · split
    · split
      · rfl
      · unfold mx
        split <;> split <;> simp <;> omega
    · rfl
  · rfl

theorem sask_some (a b c d e : Int) : ∃ v, spec_AskBucket.f a b c d e = some v := by
  obtain ⟨v, hv⟩ := slevel_some a b c d e
  unfold spec_AskBucket.f
  simp only [hv, Option.bind_some]
  repeat' split
  all_goals exact ⟨_, rfl⟩
theorem iask_eq (a b c d e : Int) : impl_AskBucket.f a b c d e = spec_AskBucket.f a b c d e := by
  unfold impl_AskBucket.f spec_AskBucket.f
  simp only [ilevel_eq]

theorem both_l0 (k : Nat) : ∀ (acc : List Bool) (l : List Int) (n i a b c d : Int), impl_BothTell.l0 k acc l n i a b c d = spec_BothTell.l0 k acc l n i a b c d := by
  induction k with
  | zero => intros; rfl
  | succ k ih => intro acc l n i a b c d; simp only [impl_BothTell.l0, spec_BothTell.l0, iask_eq, ih]
theorem both_eq (k : Nat) (a b : Int) (l : List Int) : impl_BothTell.f (k + 1) a b l = spec_BothTell.f (k + 1) a b l := by
  unfold impl_BothTell.f spec_BothTell.f
  simp only [impl_BothTell.j0, spec_BothTell.j0, both_l0, impl_NewBucket.f, spec_NewBucket.f, sizes_eq, rate_eq, Option.bind_some]
theorem sboth_l0 (l : List Int) (hn : l.length ≤ 1048576) (d : Nat) : ∀ (i : Nat) (acc : List Bool) (a b c e : Int), l.length - i = d → acc.length + d ≤ 1048576 →
    ∃ (r : List Bool) (ok : Bool), r.length ≤ acc.length + d ∧ ∀ k, d < k → spec_BothTell.l0 k acc l (l.length : Int) (i : Int) a b c e = some (r, ok) := by
  induction d with
  | zero =>
    intro i acc a b c e hd hb
    refine ⟨acc, true, by omega, fun k hk => ?_⟩
    obtain ⟨k, rfl⟩ : ∃ m, k = m + 1 := ⟨k - 1, by omega⟩
    simp only [spec_BothTell.l0]
    rw [if_neg (by omega)]
  | succ d ih =>
    intro i acc a b c e hd hb
    obtain ⟨⟨v1, v2, v3, v4, let_, ok⟩, hv⟩ := sask_some a b c e (rd l (i : Int))
    cases ok with
    | false =>
      refine ⟨[], false, by simp, fun k hk => ?_⟩
      obtain ⟨k, rfl⟩ : ∃ m, k = m + 1 := ⟨k - 1, by omega⟩
      simp only [spec_BothTell.l0]
      rw [if_pos (by omega), if_pos (by omega), if_pos (by omega), hv]
      simp
    | true =>
      obtain ⟨r, ok, h1, h2⟩ := ih (i + 1) (acc ++ [let_]) v1 v2 v3 v4 (by omega) (by simp; omega)
      rw [List.length_append, List.length_singleton] at h1
      refine ⟨r, ok, by omega, fun k hk => ?_⟩
      obtain ⟨k, rfl⟩ : ∃ m, k = m + 1 := ⟨k - 1, by omega⟩
      simp only [spec_BothTell.l0]
      rw [if_pos (by omega), if_pos (by omega), if_pos (by omega), hv]
      simp only [Option.bind_some, if_true]
      rw [if_pos (by omega), wrap_succ (n := l.length) (by omega) (by omega)]
      exact h2 k (by omega)
theorem sboth_some (a b : Int) (l : List Int) (hn : l.length ≤ 1048576) : ∃ (r : List Bool) (ok : Bool), r.length ≤ 1048576 ∧ ∀ k, 1048578 < k → spec_BothTell.f k a b l = some (r, ok) := by
  unfold spec_BothTell.f spec_NewBucket.f
  simp only [sizes_eq, Option.bind_some]
  by_cases h : (1 ≤ a ∧ a ≤ 50) ∧ (1 ≤ b ∧ b ≤ 20)
  · by_cases h2 : (l.length : Int) > 60
    · refine ⟨[], false, by simp, fun k hk => ?_⟩
      obtain ⟨k, rfl⟩ : ∃ m, k = m + 1 := ⟨k - 1, by omega⟩
      simp only [h, and_self, decide_true, if_true, Option.bind_some, spec_BothTell.j0]
      rw [if_pos (by rw [decide_eq_true_eq]; exact h2)]
    · obtain ⟨r, ok, h1, h3⟩ := sboth_l0 l hn l.length 0 [] a b 0 0 (by omega) (by simp; omega)
      refine ⟨r, ok, by simp at h1; omega, fun k hk => ?_⟩
      obtain ⟨k, rfl⟩ : ∃ m, k = m + 1 := ⟨k - 1, by omega⟩
      simp only [h, and_self, decide_true, if_true, Option.bind_some, spec_BothTell.j0]
      rw [if_neg (by rw [decide_eq_true_eq]; exact h2)]
      exact h3 k (by omega)
  · refine ⟨[], false, by simp, fun k hk => ?_⟩
    obtain ⟨k, rfl⟩ : ∃ m, k = m + 1 := ⟨k - 1, by omega⟩
    simp [h, spec_BothTell.j0]

theorem sgoodc_some (a b c : Int) : ∃ v, spec_GoodCell.f a b c = some v := by
  unfold spec_GoodCell.f
  simp only [sizes_eq, in_eq, Option.bind_some]
  repeat' split
  all_goals exact ⟨_, rfl⟩
theorem igoodc_eq (a b c : Int) : impl_GoodCell.f a b c = spec_GoodCell.f a b c := by
  unfold impl_GoodCell.f spec_GoodCell.f
  simp only [rate_eq, sizes_eq, within_eq, in_eq, Option.bind_some]
theorem saskc_j (k : Nat) (e : Int) (t : Bool) (a b c : Int) : ∃ v, spec_AskCell.j0 (k + 1) e t a b c = some v := by
  simp only [spec_AskCell.j0]
  repeat' split
  all_goals exact ⟨_, rfl⟩
theorem iaskc_j (k : Nat) (e : Int) (t : Bool) (a b c : Int) : impl_AskCell.j0 (k + 1) e t a b c = spec_AskCell.j0 (k + 1) e t a b c := by
  simp only [spec_AskCell.j0, impl_AskCell.j0, mx]
  split
  · rfl
  · split
    · rfl
    · by_cases h : c < e
      · rw [if_pos h, if_pos (by omega)]
      · rw [if_neg h, if_neg (by omega)]
theorem saskc_some (k : Nat) (a b c e : Int) : ∃ v, spec_AskCell.f (k + 1) a b c e = some v := by
  obtain ⟨v, hv⟩ := sgoodc_some a b c
  unfold spec_AskCell.f
  simp only [hv, stime_eq, Option.bind_some]
  split <;> exact saskc_j _ _ _ _ _ _
theorem iaskc_eq (k : Nat) (a b c e : Int) : impl_AskCell.f (k + 1) a b c e = spec_AskCell.f (k + 1) a b c e := by
  unfold impl_AskCell.f spec_AskCell.f
  simp only [igoodc_eq, itime_eq, stime_eq, iaskc_j]

theorem wf_u8 {x : Int} (h : (Lit.int .u8 x).wf = true) : 0 ≤ x ∧ x ≤ 255 := by
  simp [Lit.wf, IntKind.min, IntKind.max, IntKind.signed, IntKind.bits] at h
  omega
theorem wf_i64 {x : Int} (h : (Lit.int .i64 x).wf = true) : -9223372036854775808 ≤ x ∧ x ≤ 9223372036854775807 := by
  simp [Lit.wf, IntKind.min, IntKind.max, IntKind.signed, IntKind.bits] at h
  omega
theorem rd_mem (l : List Int) (i : Int) (h0 : 0 ≤ i) (h1 : i < (l.length : Int)) : rd l i ∈ l := by
  unfold rd
  have h : i.toNat < l.length := by omega
  rw [List.getD_eq_getElem?_getD, List.getElem?_eq_getElem h]
  exact List.getElem_mem h
theorem wrap_u64 (n : Int) : IntKind.u64.wrap n = n % 18446744073709551616 := by simp [IntKind.wrap, IntKind.bits, IntKind.signed]
theorem and255 (x : Int) (h0 : 0 ≤ x) (h1 : x < 18446744073709551616) : Go.bits .and .u64 x 255 = x % 256 :=
  bits_mask .u64 64 (by decide) (fun n a b => by rw [wrap_u64]; omega) 8 (by decide) x h0 h1
theorem next_ok (l : List Int) (hl : ∀ x ∈ l, (Lit.int .u8 x).wf = true) (at_ u : Int) (h0 : 0 ≤ at_) (h1 : at_ ≤ 4611686018427387904) :
    ∃ r u', spec_l1Cur_next.f l at_ u = some (r, at_ + 1, u') ∧ 0 ≤ r ∧ r ≤ 255 := by
  unfold spec_l1Cur_next.f
  have ew : wrap64 (at_ + 1) = at_ + 1 := wrap_in (by omega) (by omega)
  have hb : ∀ X : Int, 0 ≤ wrap64 (Go.bits .and .u64 ((IntKind.u64.wrap X) / 1099511627776) 255) ∧ wrap64 (Go.bits .and .u64 ((IntKind.u64.wrap X) / 1099511627776) 255) ≤ 255 := fun X => by
    rw [and255 _ (by rw [wrap_u64]; omega) (by rw [wrap_u64]; omega), wrap_in (by omega) (by omega)]
    omega
  by_cases c1 : at_ < (l.length : Int)
  · have hr := wf_u8 (hl _ (rd_mem l at_ h0 c1))
    rw [if_pos c1, if_pos h0, ew]
    by_cases c2 : at_ + 1 ≤ (l.length : Int)
    · rw [if_pos c2]
      exact ⟨_, _, rfl, by rw [wrap_in (by omega) (by omega)]; omega, by rw [wrap_in (by omega) (by omega)]; omega⟩
    · rw [if_neg c2]
      exact ⟨_, _, rfl, (hb _).1, (hb _).2⟩
  · rw [if_neg c1, ew]
    by_cases c2 : at_ + 1 ≤ (l.length : Int)
    · rw [if_pos c2]
      exact ⟨_, _, rfl, by omega, by omega⟩
    · rw [if_neg c2]
      exact ⟨_, _, rfl, (hb _).1, (hb _).2⟩
/-- What is drawn: a number below n (0 for n up to 1); the place goes on by two at the most. -/
theorem pick_ok (l : List Int) (hl : ∀ x ∈ l, (Lit.int .u8 x).wf = true) (at_ u n : Int) (h0 : 0 ≤ at_) (h1 : at_ ≤ 2305843009213693952) :
    ∃ r at' u', spec_l1Cur_pick.f l at_ u n = some (r, at', u') ∧ 0 ≤ r ∧ (r < n ∨ r = 0) ∧ r ≤ 65535 ∧ at_ ≤ at' ∧ at' ≤ at_ + 2 := by
  unfold spec_l1Cur_pick.f
  by_cases c1 : n ≤ 1
  · rw [if_pos c1]
    exact ⟨_, _, _, rfl, by omega, by omega, by omega, by omega, by omega⟩
  · rw [if_neg c1]
    obtain ⟨r, u', e1, r0, r1⟩ := next_ok l hl at_ u h0 (by omega)
    rw [e1]
    simp only [Option.bind_some]
    have tm : ∀ x : Int, 0 ≤ x → x ≤ 65535 → 0 ≤ Int.tmod x n ∧ Int.tmod x n < n ∧ Int.tmod x n ≤ 65535 := fun x hx hx2 => by
      rw [Int.tmod_eq_emod_of_nonneg hx]
      have a := Int.emod_nonneg x (show n ≠ 0 by omega)
      have b := Int.emod_lt_of_pos x (show 0 < n by omega)
      have c : x % n ≤ x := by
        by_cases hxn : x < n
        · rw [Int.emod_eq_of_lt hx hxn]; exact Int.le_refl _
        · omega
      omega
    by_cases c2 : n > 200
    · rw [if_pos c2]
      obtain ⟨r2, u2, e2, s0, s1⟩ := next_ok l hl (at_ + 1) u' (by omega) (by omega)
      rw [e2]
      simp only [Option.bind_some]
      rw [if_neg (show ¬ n = 0 by omega)]
      have ew : wrap64 ((wrap64 (r * 256)) + r2) = r * 256 + r2 := by rw [wrap_in (x := r * 256) (by omega) (by omega), wrap_in (by omega) (by omega)]
      rw [ew]
      have := tm (r * 256 + r2) (by omega) (by omega)
      exact ⟨_, _, _, rfl, by omega, by omega, by omega, by omega, by omega⟩
    · rw [if_neg c2, if_neg (show ¬ n = 0 by omega)]
      have := tm r (by omega) (by omega)
      exact ⟨_, _, _, rfl, by omega, by omega, by omega, by omega, by omega⟩
theorem one_ok (l : List Int) (hl : ∀ x ∈ l, (Lit.int .u8 x).wf = true) (at_ u n : Int) (h0 : 0 ≤ at_) (h1 : at_ ≤ 2305843009213693952) :
    ∃ b at' u', spec_l1Cur_one.f l at_ u n = some (b, at', u') ∧ at_ ≤ at' ∧ at' ≤ at_ + 2 := by
  obtain ⟨r, a, u', e, _, _, _, g1, g2⟩ := pick_ok l hl at_ u n h0 h1
  unfold spec_l1Cur_one.f
  rw [e]
  exact ⟨_, _, _, rfl, g1, g2⟩
theorem among_ok (l : List Int) (hl : ∀ x ∈ l, (Lit.int .u8 x).wf = true) (at_ u : Int) (c : List Int) (hc : 0 < c.length) (h0 : 0 ≤ at_) (h1 : at_ ≤ 2305843009213693952) :
    ∃ r at' u', spec_l1Cur_among.f l at_ u c = some (r, at', u') ∧ r ∈ c ∧ at_ ≤ at' ∧ at' ≤ at_ + 2 := by
  obtain ⟨r, a, u', e, r0, r1, _, g1, g2⟩ := pick_ok l hl at_ u (c.length : Int) h0 h1
  unfold spec_l1Cur_among.f
  rw [e]
  simp only [Option.bind_some]
  rw [if_pos r0, if_pos (by omega)]
  exact ⟨_, _, _, rfl, rd_mem c r r0 (by omega), g1, g2⟩

theorem sizes_ok (l : List Int) (hl : ∀ x ∈ l, (Lit.int .u8 x).wf = true) (at_ u : Int) (h0 : 0 ≤ at_) (h1 : at_ ≤ 1152921504606846976) :
    ∃ p b at' u', spec_l1Cur_sizes.f l at_ u = some (p, b, at', u') ∧ at_ ≤ at' ∧ at' ≤ at_ + 6 := by
  unfold spec_l1Cur_sizes.f
  obtain ⟨o, a1, u1, e1, g1, g2⟩ := one_ok l hl at_ u 20 h0 (by omega)
  rw [e1]
  simp only [Option.bind_some]
  cases o with
  | true =>
    rw [if_pos rfl]
    obtain ⟨p, a2, u2, e2, _, g3, g4⟩ := among_ok l hl a1 u1 [0, 50, 51] (by decide) (by omega) (by omega)
    rw [e2]
    simp only [Option.bind_some]
    obtain ⟨q, a3, u3, e3, _, g5, g6⟩ := among_ok l hl a2 u2 [0, 20, 21] (by decide) (by omega) (by omega)
    rw [e3]
    exact ⟨_, _, _, _, rfl, by show at_ ≤ a3; omega, by show a3 ≤ at_ + 6; omega⟩
  | false =>
    rw [if_neg (by decide)]
    obtain ⟨p, a2, u2, e2, p0, p1, p2, g3, g4⟩ := pick_ok l hl a1 u1 9 (by omega) (by omega)
    rw [e2]
    simp only [Option.bind_some]
    obtain ⟨q, a3, u3, e3, q0, q1, q2, g5, g6⟩ := pick_ok l hl a2 u2 4 (by omega) (by omega)
    rw [e3]
    exact ⟨_, _, _, _, rfl, by show at_ ≤ a3; omega, by show a3 ≤ at_ + 6; omega⟩
theorem times_l0 (l : List Int) (hl : ∀ x ∈ l, (Lit.int .u8 x).wf = true) (d : Nat) : ∀ (acc : List Int) (t at_ u : Int), 0 ≤ at_ → at_ + 2 * d ≤ 1152921504606846976 → acc.length + d ≤ 1000 →
    ∃ (r : List Int) (at' u' : Int), at_ ≤ at' ∧ at' ≤ at_ + 2 * d + 4 ∧ r.length = acc.length + d ∧ ∀ k, d < k → spec_l1Cur_times.l0 k acc t (d : Int) l at_ u = some (r, at', u') := by
  induction d with
  | zero =>
    intro acc t at_ u h0 h1 hb
    by_cases ha : (acc.length : Int) > 0
    · obtain ⟨o, a1, u1, e1, g1, g2⟩ := one_ok l hl at_ u 30 h0 (by omega)
      cases o with
      | true =>
        obtain ⟨p, a2, u2, e2, _, g3, g4⟩ := among_ok l hl a1 u1 [-1, 1000000, 1000001] (by decide) (by omega) (by omega)
        refine ⟨acc.set (wrap64 ((acc.length : Int) - 1)).toNat p, a2, u2, by omega, by omega, by simp, fun k hk => ?_⟩
        obtain ⟨k, rfl⟩ : ∃ m, k = m + 1 := ⟨k - 1, by omega⟩
        simp only [spec_l1Cur_times.l0]
        rw [if_neg (by omega), if_pos ha, e1]
        simp only [Option.bind_some, if_true]
        rw [e2]
        simp only [Option.bind_some]
        rw [if_pos (by rw [wrap_in (by omega) (by omega)]; omega), if_pos (by rw [wrap_in (by omega) (by omega)]; omega)]
      | false =>
        refine ⟨acc, a1, u1, by omega, by omega, by simp, fun k hk => ?_⟩
        obtain ⟨k, rfl⟩ : ∃ m, k = m + 1 := ⟨k - 1, by omega⟩
        simp only [spec_l1Cur_times.l0]
        rw [if_neg (by omega), if_pos ha, e1]
        simp
    · refine ⟨acc, at_, u, by omega, by omega, by simp, fun k hk => ?_⟩
      obtain ⟨k, rfl⟩ : ∃ m, k = m + 1 := ⟨k - 1, by omega⟩
      simp only [spec_l1Cur_times.l0]
      rw [if_neg (by omega), if_neg ha]
  | succ d ih =>
    intro acc t at_ u h0 h1 hb
    obtain ⟨p, a2, u2, e2, _, g3, g4⟩ := among_ok l hl at_ u [0, 0, 1, 2, 5, 20] (by decide) (by omega) (by omega)
    obtain ⟨r, a3, u3, g5, g6, g7, g8⟩ := ih (acc ++ [t]) (wrap64 (t + p)) a2 u2 (by omega) (by omega) (by simp; omega)
    rw [List.length_append, List.length_singleton] at g7
    refine ⟨r, a3, u3, by omega, by omega, by omega, fun k hk => ?_⟩
    obtain ⟨k, rfl⟩ : ∃ m, k = m + 1 := ⟨k - 1, by omega⟩
    simp only [spec_l1Cur_times.l0]
    rw [if_pos (by omega), if_pos (by omega), e2]
    simp only [Option.bind_some]
    rw [show wrap64 (((d + 1 : Nat) : Int) - 1) = (d : Int) by rw [wrap_in (by omega) (by omega)]; omega]
    exact g8 k (by omega)
theorem times_ok (l : List Int) (hl : ∀ x ∈ l, (Lit.int .u8 x).wf = true) (at_ u : Int) (h0 : 0 ≤ at_) (h1 : at_ ≤ 1000000000000000000) :
    ∃ (r : List Int) (at' u' : Int), at_ ≤ at' ∧ at' ≤ at_ + 200 ∧ r.length ≤ 100 ∧ ∀ k, 200 < k → spec_l1Cur_times.f k l at_ u = some (r, at', u') := by
  unfold spec_l1Cur_times.f
  obtain ⟨p, a2, u2, e2, p0, p1, p2, g3, g4⟩ := pick_ok l hl at_ u 4 h0 (by omega)
  rw [e2]
  simp only [Option.bind_some]
  obtain ⟨q, a3, u3, e3, q0, q1, q2, g5, g6⟩ := pick_ok l hl a2 u2 20 (by omega) (by omega)
  rw [e3]
  simp only [Option.bind_some]
  obtain ⟨o, a4, u4, e4, g7, g8⟩ := one_ok l hl a3 u3 20 (by omega) (by omega)
  rw [e4]
  simp only [Option.bind_some]
  cases o with
  | true =>
    simp only [if_true]
    obtain ⟨w, a5, u5, e5, w0, w1, w2, g9, g10⟩ := pick_ok l hl a4 u4 2 (by omega) (by omega)
    rw [e5]
    simp only [Option.bind_some]
    obtain ⟨r, a6, u6, g11, g12, g13, g14⟩ := times_l0 l hl (60 + w).toNat [] p a5 u5 (by omega) (by omega) (by simp; omega)
    simp only [List.length_nil] at g13
    refine ⟨r, a6, u6, by omega, by omega, by omega, fun k hk => ?_⟩
    obtain ⟨k, rfl⟩ : ∃ m, k = m + 1 := ⟨k - 1, by omega⟩
    simp only [spec_l1Cur_times.j0]
    have := g14 k (by omega)
    rwa [show (((60 + w).toNat : Nat) : Int) = wrap64 (60 + w) by rw [wrap_in (by omega) (by omega)]; omega] at this
  | false =>
    simp only [Bool.false_eq_true, if_false]
    obtain ⟨r, a6, u6, g11, g12, g13, g14⟩ := times_l0 l hl q.toNat [] p a4 u4 (by omega) (by omega) (by simp; omega)
    simp only [List.length_nil] at g13
    refine ⟨r, a6, u6, by omega, by omega, by omega, fun k hk => ?_⟩
    obtain ⟨k, rfl⟩ : ∃ m, k = m + 1 := ⟨k - 1, by omega⟩
    simp only [spec_l1Cur_times.j0]
    have := g14 k (by omega)
    rwa [show ((q.toNat : Nat) : Int) = q by omega] at this
theorem drawBoth_ok (l : List Int) (hl : ∀ x ∈ l, (Lit.int .u8 x).wf = true) : ∃ (p b : Int) (t : List Int), t.length ≤ 100 ∧ ∀ k, 200 < k → spec_DrawBothTell.f k l = some (p, b, t) := by
  obtain ⟨p, b, a1, u1, e1, g1, g2⟩ := sizes_ok l hl 0 0 (by omega) (by omega)
  obtain ⟨r, a2, u2, g3, g4, g5, g6⟩ := times_ok l hl a1 u1 (by omega) (by omega)
  refine ⟨p, b, r, g5, fun k hk => ?_⟩
  unfold spec_DrawBothTell.f
  rw [e1]
  simp only [Option.bind_some]
  rw [g6 k hk]
  rfl

theorem ab_bound {a b : Int} (h : (1 ≤ a ∧ a ≤ 50) ∧ (1 ≤ b ∧ b ≤ 20)) : 1 ≤ a * b ∧ a * b ≤ 1000 := by
  have h1 : 1 * 1 ≤ a * b := Int.mul_le_mul h.1.1 h.2.1 (by omega) (by omega)
  have h2 : a * b ≤ 50 * 20 := Int.mul_le_mul h.1.2 h.2.2 (by omega) (by omega)
  omega
theorem sgood_eq (a b c d : Int) : spec_GoodBucket.f a b c d = some (decide (((1 ≤ a ∧ a ≤ 50) ∧ (1 ≤ b ∧ b ≤ 20)) ∧ (0 ≤ c ∧ c ≤ a * b) ∧ (0 ≤ d ∧ d ≤ 1000000))) := by
  unfold spec_GoodBucket.f
  simp only [sizes_eq, in_eq, stime_eq, Option.bind_some]
  by_cases h : (1 ≤ a ∧ a ≤ 50) ∧ (1 ≤ b ∧ b ≤ 20)
  · have := ab_bound h
    rw [wrap_in (x := a * b) (by omega) (by omega)]
    by_cases h2 : 0 ≤ c ∧ c ≤ a * b <;> simp [h, h2]
  · simp [h]
theorem slevel_eq (a b c d e : Int) : spec_LevelAt.f a b c d e = if (((1 ≤ a ∧ a ≤ 50) ∧ (1 ≤ b ∧ b ≤ 20)) ∧ (0 ≤ c ∧ c ≤ a * b) ∧ (0 ≤ d ∧ d ≤ 1000000)) ∧ (0 ≤ e ∧ e ≤ 1000000) ∧ d ≤ e then some (if c - (e - d) < 0 then 0 else c - (e - d), true) else some (0, false) := by
  unfold spec_LevelAt.f spec_l13Level.f
  simp only [sgood_eq, stime_eq, Option.bind_some]
  by_cases h : ((1 ≤ a ∧ a ≤ 50) ∧ (1 ≤ b ∧ b ≤ 20)) ∧ (0 ≤ c ∧ c ≤ a * b) ∧ (0 ≤ d ∧ d ≤ 1000000)
  · have hb := ab_bound h.1
    rw [if_pos (by rw [decide_eq_true_eq]; exact h)]
    by_cases h2 : 0 ≤ e ∧ e ≤ 1000000
    · rw [if_pos (by rw [decide_eq_true_eq]; exact h2)]
      by_cases h3 : e < d
      · rw [if_pos h3, if_neg (by omega)]
      · rw [if_neg h3, if_pos (And.intro h (And.intro h2 (show d ≤ e by omega))), wrap_in (x := e - d) (by omega) (by omega), wrap_in (x := c - (e - d)) (by omega) (by omega)]
        split <;> rfl
    · rw [if_neg (by rw [decide_eq_true_eq]; exact h2), if_neg (fun g => h2 g.2.1)]
  · rw [if_neg (by rw [decide_eq_true_eq]; exact h), if_neg (fun g => h g.1)]
/-- What asking a bucket comes to. -/
theorem ask_cases (a b c d e : Int) :
    (spec_AskBucket.f a b c d e = some (0, 0, 0, 0, false, false)) ∨
    ∃ n x : Int, ∃ let_ : Bool, spec_AskBucket.f a b c d e = some (a, b, x, e, let_, true) ∧ ((1 ≤ a ∧ a ≤ 50) ∧ (1 ≤ b ∧ b ≤ 20)) ∧ (0 ≤ c ∧ c ≤ a * b) ∧ (0 ≤ d ∧ d ≤ e ∧ e ≤ 1000000) ∧
      0 ≤ n ∧ c - (e - d) ≤ n ∧ (n = 0 ∨ n = c - (e - d)) ∧ (let_ = true ∧ x = n + a ∧ n + a ≤ a * b ∨ let_ = false ∧ x = n ∧ a * b < n + a ∧ n ≤ a * b) := by
  unfold spec_AskBucket.f
  rw [slevel_eq]
  by_cases h : (((1 ≤ a ∧ a ≤ 50) ∧ (1 ≤ b ∧ b ≤ 20)) ∧ (0 ≤ c ∧ c ≤ a * b) ∧ (0 ≤ d ∧ d ≤ 1000000)) ∧ (0 ≤ e ∧ e ≤ 1000000) ∧ d ≤ e
  · right
    have hb := ab_bound h.1.1
    rw [if_pos h]
    simp only [Option.bind_some, if_true]
    obtain ⟨n, hn, n0, n1, n2⟩ : ∃ n, (if c - (e - d) < 0 then 0 else c - (e - d)) = n ∧ 0 ≤ n ∧ c - (e - d) ≤ n ∧ (n = 0 ∨ n = c - (e - d)) := by
      by_cases g : c - (e - d) < 0
      · exact ⟨0, if_pos g, by omega, by omega, Or.inl rfl⟩
      · exact ⟨_, if_neg g, by omega, by omega, Or.inr rfl⟩
    rw [hn, wrap_in (x := n + a) (by omega) (by omega), wrap_in (x := a * b) (by omega) (by omega)]
    by_cases g : n + a > a * b
    · rw [if_pos g]
      exact ⟨n, _, _, rfl, h.1.1, h.1.2.1, by omega, n0, n1, n2, Or.inr ⟨rfl, rfl, by omega, by omega⟩⟩
    · rw [if_neg g]
      exact ⟨n, _, _, rfl, h.1.1, h.1.2.1, by omega, n0, n1, n2, Or.inl ⟨rfl, rfl, by omega⟩⟩
  · left
    rw [if_neg h]
    rfl

theorem sameBools_l0 (a : List Bool) (hn : a.length ≤ 9223372036854775807) (d : Nat) : ∀ (k i : Nat), a.length - i = d → d < k → laws_sameBools.l0 k a a (a.length : Int) (i : Int) = some true := by
  induction d with
  | zero =>
    intro k i hd hk
    obtain ⟨k, rfl⟩ : ∃ m, k = m + 1 := ⟨k - 1, by omega⟩
    simp only [laws_sameBools.l0]
    rw [if_neg (by omega)]
  | succ d ih =>
    intro k i hd hk
    obtain ⟨k, rfl⟩ : ∃ m, k = m + 1 := ⟨k - 1, by omega⟩
    simp only [laws_sameBools.l0]
    rw [if_pos (by omega), if_pos (by omega), if_pos (by omega), if_pos (by omega), if_neg (by simp), wrap_succ (n := a.length) (by omega) hn]
    exact ih k (i + 1) (by omega) (by omega)
theorem sameBools_same (a : List Bool) (hn : a.length ≤ 9223372036854775807) (k : Nat) (hk : a.length < k) : laws_sameBools.f k a a = some true := by
  unfold laws_sameBools.f
  rw [if_pos rfl]
  exact sameBools_l0 a hn a.length k 0 (by omega) hk

def Run2 (a b : Int) : Int → Int → List Int → List Bool → Prop
  | _, _, [], ys => ys = []
  | _, _, _ :: _, [] => False
  | c, d, t :: ts, y :: ys => ∃ x : Int, spec_AskBucket.f a b c d t = some (a, b, x, t, y, true) ∧ Run2 a b x t ts ys
theorem run2_of (l : List Int) (hn : l.length ≤ 1048576) (a b : Int) (m : Nat) : ∀ (i : Nat) (acc : List Bool) (c d : Int) (r : List Bool), l.length - i = m → acc.length + m ≤ 1048576 →
    (∀ k, m < k → spec_BothTell.l0 k acc l (l.length : Int) (i : Int) a b c d = some (r, true)) → ∃ r', r = acc ++ r' ∧ Run2 a b c d (l.drop i) r' := by
  induction m with
  | zero =>
    intro i acc c d r hm hb h
    have h1 := h 1 (by omega)
    simp only [spec_BothTell.l0] at h1
    rw [if_neg (by omega)] at h1
    simp only [Option.some.injEq, Prod.mk.injEq, and_true] at h1
    subst h1
    refine ⟨[], by simp, ?_⟩
    rw [List.drop_of_length_le (by omega)]
    simp [Run2]
  | succ m ih =>
    intro i acc c d r hm hb h
    have hi : i < l.length := by omega
    rcases ask_cases a b c d (rd l (i : Int)) with e | ⟨n, x, let_, e, hs, hc, hd, n0, n1, n2, hx⟩
    · have h1 := h (m + 2) (by omega)
      simp only [spec_BothTell.l0] at h1
      rw [if_pos (by omega), if_pos (by omega), if_pos (by omega), e] at h1
      simp at h1
    · have step : ∀ k, m < k → spec_BothTell.l0 k (acc ++ [let_]) l (l.length : Int) ((i + 1 : Nat) : Int) a b x (rd l (i : Int)) = some (r, true) := fun k hk => by
        have h1 := h (k + 1) (by omega)
        simp only [spec_BothTell.l0] at h1
        rw [if_pos (by omega), if_pos (by omega), if_pos (by omega), e] at h1
        simp only [Option.bind_some, if_true] at h1
        rw [if_pos (by omega), wrap_succ (n := l.length) (by omega) (by omega)] at h1
        exact h1
      obtain ⟨r', hr, hR⟩ := ih (i + 1) (acc ++ [let_]) x (rd l (i : Int)) r (by omega) (by simp; omega) step
      refine ⟨let_ :: r', by rw [hr]; simp, ?_⟩
      have ed : l.drop i = rd l (i : Int) :: l.drop (i + 1) := by
        rw [List.drop_eq_getElem_cons hi]
        unfold rd
        simp [List.getD_eq_getElem?_getD, List.getElem?_eq_getElem hi]
      rw [ed]
      exact ⟨x, e, hR⟩
theorem run2_length (a b : Int) : ∀ (ts : List Int) (ys : List Bool) (c d : Int), Run2 a b c d ts ys → ys.length = ts.length := by
  intro ts
  induction ts with
  | nil => intro ys c d h; simp only [Run2] at h; subst h; rfl
  | cons t ts ih =>
    intro ys c d h
    cases ys with
    | nil => simp only [Run2] at h
    | cons y ys =>
      obtain ⟨x, _, hR⟩ := h
      simp [ih ys x t hR]
theorem askc_eq (k : Nat) (a b c e : Int) (hs : (1 ≤ a ∧ a ≤ 50) ∧ (1 ≤ b ∧ b ≤ 20)) (hc : 0 ≤ c ∧ c ≤ 2000000) (he : 0 ≤ e ∧ e ≤ 1000000) :
    spec_AskCell.f (k + 1) a b c e = if c > e + (a * b - a) then some (a, b, c, false, true) else some (a, b, (if e > c then e else c) + a, true, true) := by
  have hab := ab_bound hs
  have hge : a ≤ a * b := by
    have : a * 1 ≤ a * b := Int.mul_le_mul_of_nonneg_left hs.2.1 (by omega)
    omega
  have e1 : a * (b - 1) = a * b - a := by rw [Int.mul_sub, Int.mul_one]
  unfold spec_AskCell.f spec_GoodCell.f
  simp only [sizes_eq, in_eq, stime_eq, Option.bind_some, spec_AskCell.j0]
  rw [if_pos (by rw [decide_eq_true_eq]; exact hs)]
  simp only [Option.bind_some]
  rw [if_pos (by rw [decide_eq_true_eq]; exact hc), decide_eq_true he]
  simp only [Bool.not_true, Bool.false_eq_true, if_false]
  rw [wrap_in (x := b - 1) (by omega) (by omega), e1, wrap_in (x := a * b - a) (by omega) (by omega), wrap_in (x := e + (a * b - a)) (by omega) (by omega)]
  by_cases h : c > e + (a * b - a)
  · rw [if_pos h, if_pos h]
  · rw [if_neg h, if_neg h]
    by_cases g : e > c
    · rw [if_pos g, if_pos g, wrap_in (by omega) (by omega)]
    · rw [if_neg g, if_neg g, wrap_in (by omega) (by omega)]
theorem askc_j (k : Nat) (e : Int) (t : Bool) (a b c : Int) : spec_AskCell.j0 (k + 1) e t a b c = spec_AskCell.j0 1 e t a b c := by
  rw [spec_AskCell.j0, spec_AskCell.j0]
theorem askc_any (a b c e : Int) : ∃ (v1 v2 v3 : Int) (let_ ok : Bool), ∀ k, spec_AskCell.f (k + 1) a b c e = some (v1, v2, v3, let_, ok) := by
  obtain ⟨⟨v1, v2, v3, let_, ok⟩, hv⟩ := saskc_some 0 a b c e
  refine ⟨v1, v2, v3, let_, ok, fun k => ?_⟩
  rw [← hv]
  unfold spec_AskCell.f
  simp only [askc_j, Nat.zero_add]
theorem gcra_draw_l0 (l : List Int) (hl : ∀ x ∈ l, (Lit.int .u8 x).wf = true) (tm : List Int) (hn : tm.length ≤ 100) (at_ u : Int) (h0 : 0 ≤ at_) (h1 : at_ ≤ 1000000000000) (d : Nat) : ∀ (i : Nat) (a b c : Int), tm.length - i = d →
    ∃ (r1 r2 r3 r5 r6 : Int), at_ ≤ r5 ∧ r5 ≤ at_ + 4 ∧ ∀ k, d + 1 < k → spec_l1Cur_gcra.l0 k tm (tm.length : Int) (i : Int) l at_ u a b c = some (r1, r2, r3, r5, r6) := by
  induction d with
  | zero =>
    intro i a b c hd
    obtain ⟨o, a1, u1, e1, g1, g2⟩ := one_ok l hl at_ u 20 h0 (by omega)
    cases o with
    | true =>
      obtain ⟨p, a2, u2, e2, _, g3, g4⟩ := among_ok l hl a1 u1 [-1, 2000000, 2000001] (by decide) (by omega) (by omega)
      refine ⟨a, b, p, a2, u2, by omega, by omega, fun k hk => ?_⟩
      obtain ⟨k, rfl⟩ : ∃ m, k = m + 1 := ⟨k - 1, by omega⟩
      rw [spec_l1Cur_gcra.l0]
      rw [if_neg (by omega), e1]
      rw [Option.bind_some, if_pos rfl]
      dsimp only
      rw [e2]
      rfl
    | false =>
      refine ⟨a, b, c, a1, u1, by omega, by omega, fun k hk => ?_⟩
      obtain ⟨k, rfl⟩ : ∃ m, k = m + 1 := ⟨k - 1, by omega⟩
      rw [spec_l1Cur_gcra.l0]
      rw [if_neg (by omega), e1, Option.bind_some, if_neg Bool.false_ne_true]
  | succ d ih =>
    intro i a b c hd
    obtain ⟨v1, v2, v3, let_, ok, hv⟩ := askc_any a b c (rd tm (i : Int))
    cases ok with
    | true =>
      obtain ⟨r1, r2, r3, r5, r6, g1, g2, g3⟩ := ih (i + 1) v1 v2 v3 (by omega)
      refine ⟨r1, r2, r3, r5, r6, g1, g2, fun k hk => ?_⟩
      obtain ⟨k, rfl⟩ : ∃ m, k = m + 1 + 1 := ⟨k - 2, by omega⟩
      rw [spec_l1Cur_gcra.l0]
      rw [if_pos (by omega), if_pos (by omega), if_pos (by omega), hv]
      rw [Option.bind_some, if_pos rfl, wrap_succ (n := tm.length) (by omega) (by omega)]
      exact g3 (k + 1) (by omega)
    | false =>
      obtain ⟨r1, r2, r3, r5, r6, g1, g2, g3⟩ := ih (i + 1) a b c (by omega)
      refine ⟨r1, r2, r3, r5, r6, g1, g2, fun k hk => ?_⟩
      obtain ⟨k, rfl⟩ : ∃ m, k = m + 1 + 1 := ⟨k - 2, by omega⟩
      rw [spec_l1Cur_gcra.l0]
      rw [if_pos (by omega), if_pos (by omega), if_pos (by omega), hv]
      rw [Option.bind_some, if_neg Bool.false_ne_true, wrap_succ (n := tm.length) (by omega) (by omega)]
      exact g3 (k + 1) (by omega)
theorem drawCell_ok (l : List Int) (hl : ∀ x ∈ l, (Lit.int .u8 x).wf = true) : ∃ (r1 r2 r3 r4 : Int), ∀ k, 210 < k → spec_DrawAskCell.f k l = some (r1, r2, r3, r4) := by
  obtain ⟨p, b, a1, u1, e1, g1, g2⟩ := sizes_ok l hl 0 0 (by omega) (by omega)
  obtain ⟨tm, a2, u2, g3, g4, g5, g6⟩ := times_ok l hl a1 u1 (by omega) (by omega)
  have hj : ∀ x1 x2 x3 : Int, ∃ (r1 r2 r3 r5 r6 : Int), 0 ≤ r5 ∧ r5 ≤ 300 ∧ ∀ k, 210 < k → spec_l1Cur_gcra.j0 k l a1 u1 x1 x2 x3 = some (r1, r2, r3, r5, r6) := fun x1 x2 x3 => by
    obtain ⟨r1, r2, r3, r5, r6, q1, q2, q3⟩ := gcra_draw_l0 l hl tm g5 a2 u2 (by omega) (by omega) tm.length 0 x1 x2 x3 (by omega)
    refine ⟨r1, r2, r3, r5, r6, by omega, by omega, fun k hk => ?_⟩
    obtain ⟨k, rfl⟩ : ∃ m, k = m + 1 := ⟨k - 1, by omega⟩
    simp only [spec_l1Cur_gcra.j0]
    rw [g6 k (by omega)]
    simp only [Option.bind_some]
    exact q3 k (by omega)
  have hnb : ∀ x y : Int, ∃ r1 r2 r3 : Int, ∃ ok : Bool, spec_NewCell.f x y = some (r1, r2, r3, ok) := fun x y => by
    unfold spec_NewCell.f
    simp only [sizes_eq, Option.bind_some]
    split <;> exact ⟨_, _, _, _, rfl⟩
  obtain ⟨y1, y2, y3, ok, hy⟩ := hnb p b
  obtain ⟨z1, z2, z3, ok2, hz⟩ := hnb 5 2
  have hg : ∃ (r1 r2 r3 r5 r6 : Int), 0 ≤ r5 ∧ r5 ≤ 300 ∧ ∀ k, 210 < k → spec_l1Cur_gcra.f k l 0 0 = some (r1, r2, r3, r5, r6) := by
    unfold spec_l1Cur_gcra.f
    rw [e1]
    simp only [Option.bind_some]
    rw [hy]
    simp only [Option.bind_some]
    cases ok with
    | true =>
      simp only [if_true]
      exact hj _ _ _
    | false =>
      simp only [Bool.false_eq_true, if_false]
      rw [hz]
      simp only [Option.bind_some]
      exact hj _ _ _
  obtain ⟨r1, r2, r3, r5, r6, q1, q2, q3⟩ := hg
  obtain ⟨p2, a3, u3, e3, _⟩ := pick_ok l hl r5 r6 60 (by omega) (by omega)
  refine ⟨r1, r2, r3, wrap64 ((wrap64 (r3 + p2)) - 40), fun k hk => ?_⟩
  unfold spec_DrawAskCell.f
  rw [q3 k hk]
  simp only [Option.bind_some]
  rw [e3]
  rfl
theorem gcra_j5 (l : List Int) (hl : ∀ x ∈ l, (Lit.int .u8 x).wf = true) : ∀ k, 300 < k → laws_FnGcra.j5 k l = some true := by
  intro k hk
  obtain ⟨r1, r2, r3, r4, hd⟩ := drawCell_ok l hl
  obtain ⟨k, rfl⟩ : ∃ m, k = m + 1 + 1 := ⟨k - 2, by omega⟩
  obtain ⟨v, hv⟩ := saskc_some k r1 r2 r3 r4
  obtain ⟨g, hg⟩ := sgoodc_some r1 r2 r3
  simp only [laws_FnGcra.j5]
  rw [hd _ (by omega)]
  simp only [Option.bind_some]
  rw [iaskc_eq, hv]
  simp only [Option.bind_some]
  rw [igoodc_eq, hg]
  simp
theorem gcra_l0 (a b : Int) (hs : (1 ≤ a ∧ a ≤ 50) ∧ (1 ≤ b ∧ b ≤ 20)) (l1 : List Int) (hl : ∀ x ∈ l1, (Lit.int .u8 x).wf = true) (ts : List Int) (ys : List Bool) (hn : ts.length ≤ 100) (hlen : ys.length = ts.length) (m : Nat) :
    ∀ (i : Nat) (c d due : Int), ts.length - i = m → Run2 a b c d (ts.drop i) (ys.drop i) → 0 ≤ due → due ≤ 2000000 → (0 ≤ c ∧ due - d ≤ c ∧ (c = 0 ∨ c = due - d)) →
      ∀ k, 300 + 3 * m + 2 < k → laws_FnGcra.l0 k l1 ys ts (ts.length : Int) (i : Int) a b due a b c d = some true := by
  have hab := ab_bound hs
  have hge : a ≤ a * b := by
    have : a * 1 ≤ a * b := Int.mul_le_mul_of_nonneg_left hs.2.1 (by omega)
    omega
  induction m with
  | zero =>
    intro i c d due hm hR h0 h1 hc k hk
    obtain ⟨k, rfl⟩ : ∃ m, k = m + 1 := ⟨k - 1, by omega⟩
    simp only [laws_FnGcra.l0]
    rw [if_neg (by omega)]
    exact gcra_j5 l1 hl k (by omega)
  | succ m ih =>
    intro i c d due hm hR h0 h1 hc k hk
    obtain ⟨k, rfl⟩ : ∃ m, k = m + 4 := ⟨k - 4, by omega⟩
    have hi : i < ts.length := by omega
    have et : ts.drop i = rd ts (i : Int) :: ts.drop (i + 1) := by
      rw [List.drop_eq_getElem_cons hi]
      unfold rd
      simp [List.getD_eq_getElem?_getD, List.getElem?_eq_getElem hi]
    have ey : ys.drop i = rdOf false ys (i : Int) :: ys.drop (i + 1) := by
      rw [List.drop_eq_getElem_cons (by omega)]
      unfold rdOf
      simp [List.getD_eq_getElem?_getD, List.getElem?_eq_getElem (show i < ys.length by omega)]
    rw [et, ey] at hR
    obtain ⟨x, hx, hR2⟩ := hR
    rcases ask_cases a b c d (rd ts (i : Int)) with e | ⟨n, x', let_, e, hs', hcc, hd, n0, n1, n2, hx'⟩
    · rw [hx] at e
      simp at e
    · rw [hx] at e
      simp only [Option.some.injEq, Prod.mk.injEq, true_and, and_true] at e
      obtain ⟨rfl, rfl⟩ := e
      have tail : ∀ due' : Int, 0 ≤ due' → (x = 0 ∧ due' ≤ rd ts (i : Int) ∨ x = due' - rd ts (i : Int) ∧ 0 ≤ x) → laws_FnGcra.j3 (k + 3) l1 ys (rd ts (i : Int)) ts (ts.length : Int) (i : Int) false a b due' a b x (rd ts (i : Int)) = some true := by
        intro due' hd0 hxd
        have hxb : 0 ≤ x ∧ x ≤ a * b := by
          rcases hx' with ⟨_, hx1, hx2⟩ | ⟨_, hx1, hx2, hx3⟩ <;> omega
        have lev : impl_LevelAt.f a b x (rd ts (i : Int)) (rd ts (i : Int)) = some (x, true) := by
          rw [ilevel_eq, slevel_eq, if_pos ⟨⟨hs, hxb, by omega, by omega⟩, ⟨by omega, by omega⟩, Int.le_refl _⟩, if_neg (by omega)]
          rw [Int.sub_self, Int.sub_zero]
        have fin : laws_FnGcra.j4 (k + 2) l1 ys (rd ts (i : Int)) x ts (ts.length : Int) (i : Int) a b due' a b x (rd ts (i : Int)) = some true := by
          simp only [laws_FnGcra.j4]
          rw [lev]
          simp only [Option.bind_some, if_true]
          rw [wrap_succ (n := ts.length) hi (by omega)]
          exact ih (i + 1) x (rd ts (i : Int)) due' (by omega) hR2 hd0 (by omega) (by omega) (k + 1) (by omega)
        simp only [laws_FnGcra.j3, Bool.false_eq_true, if_false]
        rw [wrap_in (x := due' - rd ts (i : Int)) (by omega) (by omega)]
        by_cases g : due' - rd ts (i : Int) < 0
        · rw [if_pos g]
          have : x = 0 := by omega
          subst this
          exact fin
        · rw [if_neg g]
          have : x = due' - rd ts (i : Int) := by omega
          rw [← this]
          exact fin
      simp only [laws_FnGcra.l0]
      rw [if_pos (by omega), if_pos (by omega), if_pos (by omega), iaskc_eq, askc_eq _ a b due _ hs ⟨h0, h1⟩ ⟨by omega, by omega⟩, iask_eq, hx]
      rcases hx' with ⟨hl1, hx1, hx2⟩ | ⟨hl1, hx1, hx2, hx3⟩
      · rw [if_neg (show ¬ due > rd ts (i : Int) + (a * b - a) by omega)]
        simp only [Option.bind_some, if_true]
        rw [if_pos (by omega), hl1]
        simp only [bne_self_eq_false, Bool.false_eq_true, if_false]
        refine tail _ ?_ ?_
        · split <;> omega
        · split <;> omega
      · rw [if_pos (show due > rd ts (i : Int) + (a * b - a) by omega)]
        simp only [Option.bind_some, if_true]
        rw [if_pos (by omega), hl1]
        simp only [bne_self_eq_false, Bool.false_eq_true, if_false]
        exact tail _ h0 (by omega)
theorem FnGcra : laws_FnGcra.Stmt := by
  intro l0 l1 w0 w1
  refine ⟨2100000, ?_⟩
  unfold laws_FnGcra.f
  have hm0 := w0.1
  have hm1 := w1.1
  unfold maxLen at hm0 hm1
  by_cases h : (wrap64 ((l0.length : Int) + (l1.length : Int))) > 1048576
  · rw [if_pos h]
  · rw [if_neg h]
    obtain ⟨p, b, ts, ht, hd⟩ := drawBoth_ok l0 w0.2
    obtain ⟨r, ok, hr, hb⟩ := sboth_some p b ts (by omega)
    rw [hd _ (by omega)]
    simp only [Option.bind_some]
    rw [show (2100000 : Nat) = 2099999 + 1 from rfl, both_eq, hb _ (by omega)]
    simp only [Option.bind_some, bne_self_eq_false]
    rw [if_neg (by decide), sameBools_same r (by omega) _ (by omega)]
    simp only [Option.bind_some, Bool.not_true, laws_FnGcra.j0, Bool.false_eq_true, if_false]
    cases ok with
    | false => rw [if_neg (by decide)]; exact gcra_j5 l1 w1.2 _ (by omega)
    | true =>
      rw [if_pos rfl]
      have hb1 := hb 1048580 (by omega)
      unfold spec_BothTell.f spec_NewBucket.f at hb1
      simp only [sizes_eq, Option.bind_some] at hb1
      by_cases hs : (1 ≤ p ∧ p ≤ 50) ∧ (1 ≤ b ∧ b ≤ 20)
      · rw [if_pos (by rw [decide_eq_true_eq]; exact hs)] at hb1
        simp only [Option.bind_some, if_true] at hb1
        have hb2 : ∀ k, ts.length < k → spec_BothTell.l0 k [] ts (ts.length : Int) ((0 : Nat) : Int) p b 0 0 = some (r, true) := by
          obtain ⟨r', ok', g1, g2⟩ := sboth_l0 ts (by omega) ts.length 0 [] p b 0 0 (by omega) (by simp; omega)
          have e2 := g2 1048579 (by omega)
          simp only [spec_BothTell.j0] at hb1
          by_cases h60 : (ts.length : Int) > 60
          · rw [if_pos (by rw [decide_eq_true_eq]; exact h60)] at hb1
            simp at hb1
          · rw [if_neg (by rw [decide_eq_true_eq]; exact h60)] at hb1
            replace hb1 : spec_BothTell.l0 1048579 [] ts (ts.length : Int) ((0 : Nat) : Int) p b 0 0 = some (r, true) := hb1
            rw [e2] at hb1
            simp only [Option.some.injEq, Prod.mk.injEq] at hb1
            obtain ⟨rfl, rfl⟩ := hb1
            exact g2
        obtain ⟨r2, e, hR⟩ := run2_of ts (by omega) p b ts.length 0 [] 0 0 r (by omega) (by simp; omega) hb2
        rw [List.nil_append] at e
        subst e
        have hab := ab_bound hs
        have hgc : impl_GoodCell.f p b 0 = some true := by
          unfold impl_GoodCell.f
          simp only [rate_eq, within_eq, Option.bind_some]
          rw [if_pos (by rw [decide_eq_true_eq]; exact hs)]
          rfl
        have hgb : impl_GoodBucket.f p b 0 0 = some true := by
          rw [igood_eq, sgood_eq, decide_eq_true (by refine ⟨hs, ?_, ?_⟩ <;> omega)]
        unfold impl_NewCell.f impl_NewBucket.f
        simp only [rate_eq, Option.bind_some]
        rw [if_pos (by rw [decide_eq_true_eq]; exact hs), if_pos (by rw [decide_eq_true_eq]; exact hs)]
        simp only [Option.bind_some, if_true]
        rw [hgc]
        simp only [Option.bind_some, if_true]
        rw [hgb]
        simp only [Option.bind_some, Bool.not_true]
        rw [show (2099999 : Nat) = 2099998 + 1 from rfl]
        simp only [laws_FnGcra.j1, Bool.false_eq_true, if_false]
        exact gcra_l0 p b hs l1 w1.2 ts r (by omega) (by have := run2_length p b _ _ _ _ hR; simpa using this) ts.length 0 0 0 0 (by omega) (by simpa using hR) (by omega) (by omega) (by omega) _ (by omega)
      · rw [if_neg (by rw [decide_eq_true_eq]; exact hs)] at hb1
        simp only [Option.bind_some, Bool.false_eq_true, if_false, spec_BothTell.j0, if_true] at hb1
        simp at hb1

end Go.Proofs.Ytnphabcbnpenjaa.Pure
