/- The program's BothTell returns what the reference's returns, for all paces, bursts and times; it writes into none and its list is new memory. -/
import Derived.Test.YtnphabcbnpenjaaPFnExactBothTellx4
set_option linter.unusedVariables false
set_option linter.unusedSimpArgs false
namespace Go.Proofs.Ytnphabcbnpenjaa.Pure
open Go.RowKit Go.Proofs.Ytnphabcbnpenjaa.PFnExactBothTell Go.Proofs.YtnphabcbnpenjaaW.PrintWords Go.Proofs.YtnphabcbnpenjaaW.PrintLast Go.Proofs.YtnphabcbnpenjaaW.PrintMore

/-- What is to be shown of FnExactBothTell, in numbers and lists alone. -/
def laws_FnExactBothTell.Stmt : Prop := ∀ (a0 : Int) (a1 : Int) (l2 : List Int), ((Lit.int .i64 a0).wf = true) → ((Lit.int .i64 a1).wf = true) → (l2.length ≤ maxLen ∧ ∀ x ∈ l2, (Lit.int .i64 x).wf = true) → ∃ k, laws_FnExactBothTell.f k a0 a1 l2 = some true

theorem wrap_in {x : Int} (h0 : -9223372036854775808 ≤ x) (h1 : x ≤ 9223372036854775807) : wrap64 x = x := by
  unfold wrap64
  omega
theorem wrap_succ {i n : Nat} (h : i < n) (hn : n ≤ 9223372036854775807) : wrap64 ((i : Int) + 1) = ((i + 1 : Nat) : Int) := by
  rw [wrap_in (by omega) (by omega)]
  omega

theorem in_eq (a b c : Int) : spec_l1In.f a b c = some (decide (b ≤ a ∧ a ≤ c)) := by
  unfold spec_l1In.f
  by_cases h : b ≤ a <;> simp [h]
theorem within_eq (a b c : Int) : impl_within.f a b c = some (decide (b ≤ a ∧ a ≤ c)) := by
  unfold impl_within.f
  by_cases h : b ≤ a <;> simp [h]
theorem sizes_eq (a b : Int) : spec_l13Sizes.f a b = some (decide ((1 ≤ a ∧ a ≤ 50) ∧ (1 ≤ b ∧ b ≤ 20))) := by
  unfold spec_l13Sizes.f
  simp only [in_eq, Option.bind_some]
  by_cases h : 1 ≤ a ∧ a ≤ 50 <;> simp [h]
theorem rate_eq (a b : Int) : impl_isRate.f a b = some (decide ((1 ≤ a ∧ a ≤ 50) ∧ (1 ≤ b ∧ b ≤ 20))) := by
  unfold impl_isRate.f
  simp only [within_eq, Option.bind_some]
  by_cases h : 1 ≤ a ∧ a ≤ 50 <;> simp [h]

theorem stime_eq (a : Int) : spec_l13Time.f a = some (decide (0 ≤ a ∧ a ≤ 1000000)) := by
  unfold spec_l13Time.f
  simp only [in_eq, Option.bind_some]
theorem itime_eq (a : Int) : impl_isTime.f a = some (decide (0 ≤ a ∧ a ≤ 1000000)) := by
  unfold impl_isTime.f
  simp only [within_eq, Option.bind_some]

theorem sgood_some (a b c d : Int) : ∃ v, spec_GoodBucket.f a b c d = some v := by
  unfold spec_GoodBucket.f
  simp only [sizes_eq, in_eq, stime_eq, Option.bind_some]
  repeat' split
  all_goals exact ⟨_, rfl⟩
theorem igood_eq (a b c d : Int) : impl_GoodBucket.f a b c d = spec_GoodBucket.f a b c d := by
  unfold impl_GoodBucket.f spec_GoodBucket.f
  simp only [rate_eq, sizes_eq, within_eq, in_eq, itime_eq, stime_eq, Option.bind_some]

theorem slevel_some (a b c d e : Int) : ∃ v, spec_LevelAt.f a b c d e = some v := by
  obtain ⟨v, hv⟩ := sgood_some a b c d
  unfold spec_LevelAt.f spec_l13Level.f
  simp only [hv, stime_eq, Option.bind_some]
  repeat' split
  all_goals exact ⟨_, rfl⟩
theorem ilevel_eq (a b c d e : Int) : impl_LevelAt.f a b c d e = spec_LevelAt.f a b c d e := by
  obtain ⟨v, hv⟩ := sgood_some a b c d
  unfold impl_LevelAt.f spec_LevelAt.f spec_l13Level.f
  simp only [igood_eq, hv, itime_eq, stime_eq, Option.bind_some]
  split
  · split
    · split
      · rfl
      · unfold mx
        split <;> split <;> simp <;> omega
    · rfl
  · rfl

theorem sask_some (a b c d e : Int) : ∃ v, spec_AskBucket.f a b c d e = some v := by
  obtain ⟨v, hv⟩ := slevel_some a b c d e
  unfold spec_AskBucket.f
  simp only [hv, Option.bind_some]
  repeat' split
  all_goals exact ⟨_, rfl⟩
theorem iask_eq (a b c d e : Int) : impl_AskBucket.f a b c d e = spec_AskBucket.f a b c d e := by
  unfold impl_AskBucket.f spec_AskBucket.f
  simp only [ilevel_eq]

theorem eqIntS_l0 (a : List Int) (hn : a.length ≤ 9223372036854775807) (d : Nat) : ∀ (k i : Nat), a.length - i = d → d < k → laws_eqIntS.l0 k a a (i : Int) = some true := by
  induction d with
  | zero =>
    intro k i hd hk
    obtain ⟨k, rfl⟩ : ∃ m, k = m + 1 := ⟨k - 1, by omega⟩
    simp only [laws_eqIntS.l0]
    rw [if_neg (by omega)]
  | succ d ih =>
    intro k i hd hk
    obtain ⟨k, rfl⟩ : ∃ m, k = m + 1 := ⟨k - 1, by omega⟩
    simp only [laws_eqIntS.l0]
    rw [if_pos (by omega), if_pos (by omega), if_pos (by omega), if_pos trivial, wrap_succ (n := a.length) (by omega) hn]
    exact ih k (i + 1) (by omega) (by omega)
theorem eqIntS_same (a : List Int) (hn : a.length ≤ 9223372036854775807) (k : Nat) (hk : a.length < k) : laws_eqIntS.f k a a = some true := by
  unfold laws_eqIntS.f
  rw [if_pos rfl]
  exact eqIntS_l0 a hn a.length k 0 (by omega) hk

theorem markIntS_l0 (d : Nat) : ∀ (k i : Nat) (x : List Int) (m : Int), x.length ≤ 9223372036854775807 → x.length - i = d → i ≤ x.length → d < k → 0 ≤ m → m + d ≤ 9223372036854775807 →
    laws_markIntS.l0 k x m (i : Int) = some (m + d, x.take i ++ (List.range d).map (fun j : Nat => m + j)) := by
  induction d with
  | zero =>
    intro k i x m hn hd hi hk h0 h1
    obtain ⟨k, rfl⟩ : ∃ m, k = m + 1 := ⟨k - 1, by omega⟩
    simp only [laws_markIntS.l0]
    rw [if_neg (by omega), List.take_of_length_le (by omega)]
    simp
  | succ d ih =>
    intro k i x m hn hd hi hk h0 h1
    obtain ⟨k, rfl⟩ : ∃ m, k = m + 1 := ⟨k - 1, by omega⟩
    simp only [laws_markIntS.l0]
    rw [if_pos (by omega), if_pos (by omega), wrap_succ (n := x.length) (by omega) hn, wrap_in (by omega) (by omega),
      ih k (i + 1) (x.set (i : Int).toNat m) (m + 1) (by simpa using hn) (by rw [List.length_set]; omega) (by rw [List.length_set]; omega) (by omega) (by omega) (by omega)]
    have hi' : i < x.length := by omega
    have e1 : (x.set i m).take (i + 1) = x.take i ++ [m] := by
      rw [List.take_add_one, List.take_set_of_le (Nat.le_refl i), List.getElem?_set_self hi']
      rfl
    rw [show (i : Int).toNat = i from rfl, e1, List.range_succ_eq_map, List.map_cons, List.map_map]
    simp only [List.append_assoc, List.cons_append, List.nil_append]
    congr 1
    refine Prod.ext (by simp; omega) ?_
    simp only [Function.comp_def]
    congr 1
    congr 1
    · simp
    · exact List.map_congr_left fun j _ => by simp; omega
theorem markIntS_is (x : List Int) (m : Int) (k : Nat) (hn : x.length ≤ 1000000000000) (hk : x.length < k) (h0 : 0 ≤ m) (h1 : m ≤ 1000000000000000) :
    laws_markIntS.f k x m = some (m + x.length, (List.range x.length).map (fun j : Nat => m + j)) := by
  unfold laws_markIntS.f
  have := markIntS_l0 x.length k 0 x m (by omega) (by omega) (by omega) hk h0 (by omega)
  simpa using this

theorem toIntS_l0 (a : List Int) (hn : a.length ≤ 9223372036854775807) (d : Nat) : ∀ (k i : Nat) (x : List Int), a.length - i = d → i ≤ a.length → x.length = a.length → d < k → laws_toIntS.l0 k a x (i : Int) = some (x.take i ++ a.drop i) := by
  induction d with
  | zero =>
    intro k i x hd hi hx hk
    obtain ⟨k, rfl⟩ : ∃ m, k = m + 1 := ⟨k - 1, by omega⟩
    simp only [laws_toIntS.l0]
    rw [if_neg (by omega), List.take_of_length_le (by omega), List.drop_of_length_le (by omega), List.append_nil]
  | succ d ih =>
    intro k i x hd hi hx hk
    obtain ⟨k, rfl⟩ : ∃ m, k = m + 1 := ⟨k - 1, by omega⟩
    simp only [laws_toIntS.l0]
    rw [if_pos (by omega), if_pos (by omega), if_pos (by omega), wrap_succ (n := a.length) (by omega) hn, ih k (i + 1) _ (by omega) (by omega) (by rw [List.length_set]; exact hx) (by omega)]
    have hi' : i < x.length := by omega
    have hia : i < a.length := by omega
    have e1 : (x.set (i : Int).toNat (rd a (i : Int))).take (i + 1) = x.take i ++ [rd a (i : Int)] := by
      rw [show (i : Int).toNat = i from rfl, List.take_add_one, List.take_set_of_le (Nat.le_refl i), List.getElem?_set_self hi']
      rfl
    have e2 : a.drop i = rd a (i : Int) :: a.drop (i + 1) := by
      rw [List.drop_eq_getElem_cons hia]
      unfold rd
      simp [List.getD_eq_getElem?_getD, List.getElem?_eq_getElem hia]
    rw [e1, e2]
    simp
theorem toIntS_is (a : List Int) (hn : a.length ≤ 35184372088832) (k : Nat) (hk : a.length < k) : laws_toIntS.f k a = some a := by
  unfold laws_toIntS.f
  rw [if_pos (by omega), if_pos (by simpa using hn)]
  have := toIntS_l0 a (by omega) a.length k 0 (List.replicate a.length 0) (by omega) (by omega) (by simp) hk
  simpa using this

theorem eqBoolS_l0 (a : List Bool) (hn : a.length ≤ 9223372036854775807) (d : Nat) : ∀ (k i : Nat), a.length - i = d → d < k → laws_eqBoolS.l0 k a a (i : Int) = some true := by
  induction d with
  | zero =>
    intro k i hd hk
    obtain ⟨k, rfl⟩ : ∃ m, k = m + 1 := ⟨k - 1, by omega⟩
    simp only [laws_eqBoolS.l0]
    rw [if_neg (by omega)]
  | succ d ih =>
    intro k i hd hk
    obtain ⟨k, rfl⟩ : ∃ m, k = m + 1 := ⟨k - 1, by omega⟩
    simp only [laws_eqBoolS.l0]
    rw [if_pos (by omega), if_pos (by omega), if_pos (by omega), if_neg (by simp), wrap_succ (n := a.length) (by omega) hn]
    exact ih k (i + 1) (by omega) (by omega)
theorem eqBoolS_same (a : List Bool) (hn : a.length ≤ 9223372036854775807) (k : Nat) (hk : a.length < k) : laws_eqBoolS.f k a a = some true := by
  unfold laws_eqBoolS.f
  rw [if_pos rfl]
  exact eqBoolS_l0 a hn a.length k 0 (by omega) hk

theorem markBoolS_l0 (d : Nat) : ∀ (k i : Nat) (x : List Bool) (m : Int), x.length ≤ 9223372036854775807 → x.length - i = d → i ≤ x.length → d < k → 0 ≤ m → m + d ≤ 9223372036854775807 →
    laws_markBoolS.l0 k x m (i : Int) = some (m + d, x.take i ++ (List.range d).map (fun j : Nat => (Int.tmod (m + j) 3 == 0))) := by
  induction d with
  | zero =>
    intro k i x m hn hd hi hk h0 h1
    obtain ⟨k, rfl⟩ : ∃ m, k = m + 1 := ⟨k - 1, by omega⟩
    simp only [laws_markBoolS.l0]
    rw [if_neg (by omega), List.take_of_length_le (by omega)]
    simp
  | succ d ih =>
    intro k i x m hn hd hi hk h0 h1
    obtain ⟨k, rfl⟩ : ∃ m, k = m + 1 := ⟨k - 1, by omega⟩
    simp only [laws_markBoolS.l0]
    rw [if_pos (by omega), if_pos (by omega), wrap_succ (n := x.length) (by omega) hn, wrap_in (by omega) (by omega),
      ih k (i + 1) (x.set (i : Int).toNat (Int.tmod m 3 == 0)) (m + 1) (by simpa using hn) (by rw [List.length_set]; omega) (by rw [List.length_set]; omega) (by omega) (by omega) (by omega)]
    have hi' : i < x.length := by omega
    have e1 : (x.set i (Int.tmod m 3 == 0)).take (i + 1) = x.take i ++ [(Int.tmod m 3 == 0)] := by
      rw [List.take_add_one, List.take_set_of_le (Nat.le_refl i), List.getElem?_set_self hi']
      rfl
    rw [show (i : Int).toNat = i from rfl, e1, List.range_succ_eq_map, List.map_cons, List.map_map]
    simp only [List.append_assoc, List.cons_append, List.nil_append]
    congr 1
    refine Prod.ext (by simp; omega) ?_
    simp only [Function.comp_def]
    congr 1
    congr 1
    · simp
    · exact List.map_congr_left fun j _ => by rw [show m + 1 + (j : Int) = m + ((j + 1 : Nat) : Int) by omega]
theorem markBoolS_is (x : List Bool) (m : Int) (k : Nat) (hn : x.length ≤ 1000000000000) (hk : x.length < k) (h0 : 0 ≤ m) (h1 : m ≤ 1000000000000000) :
    laws_markBoolS.f k x m = some (m + x.length, (List.range x.length).map (fun j : Nat => (Int.tmod (m + j) 3 == 0))) := by
  unfold laws_markBoolS.f
  have := markBoolS_l0 x.length k 0 x m (by omega) (by omega) (by omega) hk h0 (by omega)
  simpa using this

theorem heldBoolS_l0 (d : Nat) : ∀ (k i : Nat) (x : List Bool) (m : Int), x.length ≤ 9223372036854775807 → x.length - i = d → i ≤ x.length → d < k → 0 ≤ m → m + d ≤ 9223372036854775807 →
    (∀ j : Nat, j < d → x.getD (i + j) false = (Int.tmod (m + j) 3 == 0)) → laws_heldBoolS.l0 k x m (i : Int) = some (m + d) := by
  induction d with
  | zero =>
    intro k i x m hn hd hi hk h0 h1 hx
    obtain ⟨k, rfl⟩ : ∃ m, k = m + 1 := ⟨k - 1, by omega⟩
    simp only [laws_heldBoolS.l0]
    rw [if_neg (by omega)]
    simp
  | succ d ih =>
    intro k i x m hn hd hi hk h0 h1 hx
    obtain ⟨k, rfl⟩ : ∃ m, k = m + 1 := ⟨k - 1, by omega⟩
    simp only [laws_heldBoolS.l0]
    have e := hx 0 (by omega)
    rw [if_pos (by omega), if_pos (by omega), if_neg (by unfold rdOf; simpa using e), wrap_succ (n := x.length) (by omega) hn, wrap_in (by omega) (by omega),
      ih k (i + 1) x (m + 1) hn (by omega) (by omega) (by omega) (by omega) (by omega) (fun j hj => by have := hx (j + 1) (by omega); rw [show i + 1 + j = i + (j + 1) by omega, this, show m + 1 + (j : Int) = m + ((j + 1 : Nat) : Int) by omega])]
    congr 1
    omega
theorem heldBoolS_is (n : Nat) (m : Int) (k : Nat) (hn : n ≤ 1000000000000) (hk : n < k) (h0 : 0 ≤ m) (h1 : m ≤ 1000000000000000) :
    laws_heldBoolS.f k ((List.range n).map (fun j : Nat => (Int.tmod (m + j) 3 == 0))) m = some (m + n) := by
  unfold laws_heldBoolS.f
  have := heldBoolS_l0 n k 0 ((List.range n).map (fun j : Nat => (Int.tmod (m + j) 3 == 0))) m (by simp; omega) (by simp) (by simp) hk h0 (by omega) (fun j hj => by
    simp [List.getD_eq_getElem?_getD, List.getElem?_range hj])
  simpa using this

theorem both_l0 (k : Nat) : ∀ (acc : List Bool) (l : List Int) (n i a b c d : Int), impl_BothTell.l0 k acc l n i a b c d = spec_BothTell.l0 k acc l n i a b c d := by
  induction k with
  | zero => intros; rfl
  | succ k ih => intro acc l n i a b c d; simp only [impl_BothTell.l0, spec_BothTell.l0, iask_eq, ih]
theorem both_eq (k : Nat) (a b : Int) (l : List Int) : impl_BothTell.f (k + 1) a b l = spec_BothTell.f (k + 1) a b l := by
  unfold impl_BothTell.f spec_BothTell.f
  simp only [impl_BothTell.j0, spec_BothTell.j0, both_l0, impl_NewBucket.f, spec_NewBucket.f, sizes_eq, rate_eq, Option.bind_some]
theorem sboth_l0 (l : List Int) (hn : l.length ≤ 1048576) (d : Nat) : ∀ (i : Nat) (acc : List Bool) (a b c e : Int), l.length - i = d → acc.length + d ≤ 1048576 →
    ∃ (r : List Bool) (ok : Bool), r.length ≤ acc.length + d ∧ ∀ k, d < k → spec_BothTell.l0 k acc l (l.length : Int) (i : Int) a b c e = some (r, ok) := by
  induction d with
  | zero =>
    intro i acc a b c e hd hb
    refine ⟨acc, true, by omega, fun k hk => ?_⟩
    obtain ⟨k, rfl⟩ : ∃ m, k = m + 1 := ⟨k - 1, by omega⟩
    simp only [spec_BothTell.l0]
    rw [if_neg (by omega)]
  | succ d ih =>
    intro i acc a b c e hd hb
    obtain ⟨⟨v1, v2, v3, v4, let_, ok⟩, hv⟩ := sask_some a b c e (rd l (i : Int))
    cases ok with
    | false =>
      refine ⟨[], false, by simp, fun k hk => ?_⟩
      obtain ⟨k, rfl⟩ : ∃ m, k = m + 1 := ⟨k - 1, by omega⟩
      simp only [spec_BothTell.l0]
      rw [if_pos (by omega), if_pos (by omega), if_pos (by omega), hv]
      simp
    | true =>
      obtain ⟨r, ok, h1, h2⟩ := ih (i + 1) (acc ++ [let_]) v1 v2 v3 v4 (by omega) (by simp; omega)
      rw [List.length_append, List.length_singleton] at h1
      refine ⟨r, ok, by omega, fun k hk => ?_⟩
      obtain ⟨k, rfl⟩ : ∃ m, k = m + 1 := ⟨k - 1, by omega⟩
      simp only [spec_BothTell.l0]
      rw [if_pos (by omega), if_pos (by omega), if_pos (by omega), hv]
      simp only [Option.bind_some, if_true]
      rw [if_pos (by omega), wrap_succ (n := l.length) (by omega) (by omega)]
      exact h2 k (by omega)
theorem sboth_some (a b : Int) (l : List Int) (hn : l.length ≤ 1048576) : ∃ (r : List Bool) (ok : Bool), r.length ≤ 1048576 ∧ ∀ k, 1048578 < k → spec_BothTell.f k a b l = some (r, ok) := by
  unfold spec_BothTell.f spec_NewBucket.f
  simp only [sizes_eq, Option.bind_some]
  by_cases h : (1 ≤ a ∧ a ≤ 50) ∧ (1 ≤ b ∧ b ≤ 20)
  · by_cases h2 : (l.length : Int) > 60
    · refine ⟨[], false, by simp, fun k hk => ?_⟩
      obtain ⟨k, rfl⟩ : ∃ m, k = m + 1 := ⟨k - 1, by omega⟩
      simp only [h, and_self, decide_true, if_true, Option.bind_some, spec_BothTell.j0]
      rw [if_pos (by rw [decide_eq_true_eq]; exact h2)]
    · obtain ⟨r, ok, h1, h3⟩ := sboth_l0 l hn l.length 0 [] a b 0 0 (by omega) (by simp; omega)
      refine ⟨r, ok, by simp at h1; omega, fun k hk => ?_⟩
      obtain ⟨k, rfl⟩ : ∃ m, k = m + 1 := ⟨k - 1, by omega⟩
      simp only [h, and_self, decide_true, if_true, Option.bind_some, spec_BothTell.j0]
      rw [if_neg (by rw [decide_eq_true_eq]; exact h2)]
      exact h3 k (by omega)
  · refine ⟨[], false, by simp, fun k hk => ?_⟩
    obtain ⟨k, rfl⟩ : ∃ m, k = m + 1 := ⟨k - 1, by omega⟩
    simp [h, spec_BothTell.j0]

theorem FnExactBothTell : laws_FnExactBothTell.Stmt := by
  intro a b x _ _ _
  refine ⟨2097200, ?_⟩
  unfold laws_FnExactBothTell.f
  by_cases h : (x.length : Int) > 1048576
  · rw [if_pos h]
  · rw [if_neg h]
    have hn : x.length ≤ 1048576 := by omega
    obtain ⟨l, bb, hl, hb0⟩ := sboth_some a b x hn
    have hb : ∀ k, 1048579 < k → spec_BothTell.f k a b x = some (l, bb) ∧ impl_BothTell.f k a b x = some (l, bb) := fun k hk => by
      obtain ⟨k, rfl⟩ : ∃ m, k = m + 1 := ⟨k - 1, by omega⟩
      rw [both_eq]
      exact ⟨hb0 _ (by omega), hb0 _ (by omega)⟩
    rw [toIntS_is x (by omega) _ (by omega)]
    simp only [Option.bind_some]
    rw [(hb _ (by omega)).1, (hb _ (by omega)).2]
    simp only [Option.bind_some]
    rw [eqBoolS_same l (by omega) _ (by omega)]
    simp only [Option.bind_some, if_true, bne_self_eq_false, laws_FnExactBothTell.j0]
    rw [if_neg (by decide), toIntS_is x (by omega) _ (by omega)]
    simp only [Option.bind_some]
    rw [eqIntS_same x (by omega) _ (by omega)]
    simp only [Option.bind_some, if_true]
    rw [markIntS_is x 1 _ (by omega) (by omega) (by omega) (by omega)]
    simp only [Option.bind_some]
    rw [if_neg (by omega), eqBoolS_same l (by omega) _ (by omega)]
    simp only [Option.bind_some, if_true, bne_self_eq_false, laws_FnExactBothTell.j1]
    rw [if_neg (by decide), markBoolS_is l 1 _ (by omega) (by omega) (by omega) (by omega)]
    simp only [Option.bind_some]
    rw [heldBoolS_is l.length 1 _ (by omega) (by omega) (by omega) (by omega)]
    simp only [Option.bind_some]
    rw [if_neg (by omega), if_pos trivial]
    rw [toIntS_is x (by omega) _ (by omega)]
    simp only [Option.bind_some]
    rw [(hb _ (by omega)).2]
    simp only [Option.bind_some]
    rw [eqBoolS_same l (by omega) _ (by omega)]
    simp only [Option.bind_some, if_true, bne_self_eq_false, laws_FnExactBothTell.j2]
    rw [if_neg (by decide), heldBoolS_is l.length 1 _ (by omega) (by omega) (by omega) (by omega)]
    simp only [Option.bind_some]
    rw [if_neg (by omega), if_pos trivial]

end Go.Proofs.Ytnphabcbnpenjaa.Pure
