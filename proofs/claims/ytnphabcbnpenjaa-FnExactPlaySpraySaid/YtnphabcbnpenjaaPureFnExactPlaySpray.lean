/- The program's PlaySpray returns what the reference's returns, for all whole numbers and all rows of who meet. -/
import Derived.Test.YtnphabcbnpenjaaXFnExactPlaySprayx8
set_option linter.unusedVariables false
set_option linter.unusedSimpArgs false
namespace Go.Proofs.Ytnphabcbnpenjaa.Pure
open Go.RowKit Go.Proofs.Ytnphabcbnpenjaa.XFnExactPlaySpray Go.Proofs.YtnphabcbnpenjaaW.PrintWords Go.Proofs.YtnphabcbnpenjaaW.PrintLast Go.Proofs.YtnphabcbnpenjaaW.PrintMore

/-- What is to be shown of FnExactPlaySpray, in numbers and lists alone. -/
def laws_FnExactPlaySpray.Stmt : Prop := ∀ (a0 : Int) (a1 : Int) (a2 : Int) (a3 : Int) (l4 : List (S57)), ((Lit.int .i64 a0).wf = true) → ((Lit.int .i64 a1).wf = true) → ((Lit.int .i64 a2).wf = true) → ((Lit.int .i64 a3).wf = true) → (l4.length ≤ maxLen ∧ ∀ x ∈ l4, ((Lit.int .i64 x.f0).wf = true) ∧ ((Lit.int .i64 x.f1).wf = true)) → ∃ k, laws_FnExactPlaySpray.f k a0 a1 a2 a3 l4 = some true

theorem wrap_in {x : Int} (h0 : -9223372036854775808 ≤ x) (h1 : x ≤ 9223372036854775807) : wrap64 x = x := by
  unfold wrap64
  omega
theorem wrap_succ {i n : Nat} (h : i < n) (hn : n ≤ 9223372036854775807) : wrap64 ((i : Int) + 1) = ((i + 1 : Nat) : Int) := by
  rw [wrap_in (by omega) (by omega)]
  omega

theorem eqIntS_l0 (a : List Int) (hn : a.length ≤ 9223372036854775807) (d : Nat) : ∀ (k i : Nat), a.length - i = d → d < k → laws_eqIntS.l0 k a a (i : Int) = some true := by
  induction d with
  | zero =>
    intro k i hd hk
    obtain ⟨k, rfl⟩ : ∃ m, k = m + 1 := ⟨k - 1, by omega⟩
    simp only [laws_eqIntS.l0]
    rw [if_neg (by omega)]
  | succ d ih =>
    intro k i hd hk
    obtain ⟨k, rfl⟩ : ∃ m, k = m + 1 := ⟨k - 1, by omega⟩
    simp only [laws_eqIntS.l0]
    rw [if_pos (by omega), if_pos (by omega), if_pos (by omega), if_pos trivial, wrap_succ (n := a.length) (by omega) hn]
    exact ih k (i + 1) (by omega) (by omega)
theorem eqIntS_same (a : List Int) (hn : a.length ≤ 9223372036854775807) (k : Nat) (hk : a.length < k) : laws_eqIntS.f k a a = some true := by
  unfold laws_eqIntS.f
  rw [if_pos rfl]
  exact eqIntS_l0 a hn a.length k 0 (by omega) hk

theorem markIntS_l0 (d : Nat) : ∀ (k i : Nat) (x : List Int) (m : Int), x.length ≤ 9223372036854775807 → x.length - i = d → i ≤ x.length → d < k → 0 ≤ m → m + d ≤ 9223372036854775807 →
    laws_markIntS.l0 k x m (i : Int) = some (m + d, x.take i ++ (List.range d).map (fun j : Nat => m + j)) := by
  induction d with
  | zero =>
    intro k i x m hn hd hi hk h0 h1
    obtain ⟨k, rfl⟩ : ∃ m, k = m + 1 := ⟨k - 1, by omega⟩
    simp only [laws_markIntS.l0]
    rw [if_neg (by omega), List.take_of_length_le (by omega)]
    simp
  | succ d ih =>
    intro k i x m hn hd hi hk h0 h1
    obtain ⟨k, rfl⟩ : ∃ m, k = m + 1 := ⟨k - 1, by omega⟩
    simp only [laws_markIntS.l0]
    rw [if_pos (by omega), if_pos (by omega), wrap_succ (n := x.length) (by omega) hn, wrap_in (by omega) (by omega),
      ih k (i + 1) (x.set (i : Int).toNat m) (m + 1) (by simpa using hn) (by rw [List.length_set]; omega) (by rw [List.length_set]; omega) (by omega) (by omega) (by omega)]
    have hi' : i < x.length := by omega
    have e1 : (x.set i m).take (i + 1) = x.take i ++ [m] := by
      rw [List.take_add_one, List.take_set_of_le (Nat.le_refl i), List.getElem?_set_self hi']
      rfl
    rw [show (i : Int).toNat = i from rfl, e1, List.range_succ_eq_map, List.map_cons, List.map_map]
    simp only [List.append_assoc, List.cons_append, List.nil_append]
    congr 1
    refine Prod.ext (by simp; omega) ?_
    simp only [Function.comp_def]
    congr 1
    congr 1
    · simp
    · exact List.map_congr_left fun j _ => by simp; omega
theorem markIntS_is (x : List Int) (m : Int) (k : Nat) (hn : x.length ≤ 1000000000000) (hk : x.length < k) (h0 : 0 ≤ m) (h1 : m ≤ 1000000000000000) :
    laws_markIntS.f k x m = some (m + x.length, (List.range x.length).map (fun j : Nat => m + j)) := by
  unfold laws_markIntS.f
  have := markIntS_l0 x.length k 0 x m (by omega) (by omega) (by omega) hk h0 (by omega)
  simpa using this

theorem heldIntS_l0 (d : Nat) : ∀ (k i : Nat) (x : List Int) (m : Int), x.length ≤ 9223372036854775807 → x.length - i = d → i ≤ x.length → d < k → 0 ≤ m → m + d ≤ 9223372036854775807 →
    (∀ j : Nat, j < d → x.getD (i + j) 0 = m + j) → laws_heldIntS.l0 k x m (i : Int) = some (m + d) := by
  induction d with
  | zero =>
    intro k i x m hn hd hi hk h0 h1 hx
    obtain ⟨k, rfl⟩ : ∃ m, k = m + 1 := ⟨k - 1, by omega⟩
    simp only [laws_heldIntS.l0]
    rw [if_neg (by omega)]
    simp
  | succ d ih =>
    intro k i x m hn hd hi hk h0 h1 hx
    obtain ⟨k, rfl⟩ : ∃ m, k = m + 1 := ⟨k - 1, by omega⟩
    simp only [laws_heldIntS.l0]
    have e := hx 0 (by omega)
    rw [if_pos (by omega), if_pos (by omega), if_pos (by unfold rd; simpa using e), wrap_succ (n := x.length) (by omega) hn, wrap_in (by omega) (by omega),
      ih k (i + 1) x (m + 1) hn (by omega) (by omega) (by omega) (by omega) (by omega) (fun j hj => by have := hx (j + 1) (by omega); rw [show i + 1 + j = i + (j + 1) by omega, this]; omega)]
    congr 1
    omega
theorem heldIntS_is (n : Nat) (m : Int) (k : Nat) (hn : n ≤ 1000000000000) (hk : n < k) (h0 : 0 ≤ m) (h1 : m ≤ 1000000000000000) :
    laws_heldIntS.f k ((List.range n).map (fun j : Nat => m + j)) m = some (m + n) := by
  unfold laws_heldIntS.f
  have := heldIntS_l0 n k 0 ((List.range n).map (fun j : Nat => m + j)) m (by simp; omega) (by simp) (by simp) hk h0 (by omega) (fun j hj => by
    simp [List.getD_eq_getElem?_getD, List.getElem?_range hj])
  simpa using this

theorem in_eq (a b c : Int) : spec_l1In.f a b c = some (decide (b ≤ a ∧ a ≤ c)) := by
  unfold spec_l1In.f
  by_cases h : b ≤ a <;> simp [h]
theorem within_eq (a b c : Int) : impl_within.f a b c = some (decide (b ≤ a ∧ a ≤ c)) := by
  unfold impl_within.f
  by_cases h : b ≤ a <;> simp [h]

theorem dropInt (l : List Int) (i : Nat) (h : i < l.length) : l.drop i = rd l (i : Int) :: l.drop (i + 1) := by
  rw [List.drop_eq_getElem_cons h]
  unfold rd
  simp [List.getD_eq_getElem?_getD, List.getElem?_eq_getElem h]
theorem iin_is (a b c : Int) : impl_within.f a b c = some (decide (b ≤ a ∧ a ≤ c)) := by
  unfold impl_within.f
  by_cases h : b ≤ a <;> simp [h]
/-- What the rows' numbers add up to, as the program adds. -/
def total (m : Int) (l : List Int) : Int := l.foldl (fun a x => wrap64 (a + x)) m
theorem eqSpray_same (l : List Int) (b : Int) (c : Bool) (h : l.length ≤ 1048576) (k : Nat) (hk : 1048576 < k) : laws_eqSpray.f k l b c l b c = some true := by
  unfold laws_eqSpray.f
  rw [eqIntS_same l (by omega) k (by omega)]
  simp
theorem tokens_l0 (x : List Int) (hn : x.length ≤ 1048576) (d : Nat) : ∀ (k i : Nat) (m : Int), x.length - i = d → i ≤ x.length → d < k → impl_Spray_tokens.l0 k m x (x.length : Int) (i : Int) = some (total m (x.drop i)) := by
  induction d with
  | zero =>
    intro k i m hd hi hk
    obtain ⟨k, rfl⟩ : ∃ m, k = m + 1 := ⟨k - 1, by omega⟩
    simp only [impl_Spray_tokens.l0]
    rw [if_neg (by omega), List.drop_of_length_le (by omega)]
    rfl
  | succ d ih =>
    intro k i m hd hi hk
    obtain ⟨k, rfl⟩ : ∃ m, k = m + 1 := ⟨k - 1, by omega⟩
    simp only [impl_Spray_tokens.l0]
    rw [if_pos (by omega), if_pos (by omega), if_pos (by omega), wrap_succ (n := x.length) (by omega) (by omega), ih k (i + 1) _ (by omega) (by omega) (by omega), dropInt x i (by omega)]
    rfl
theorem tokens_is (x : List Int) (b : Int) (c : Bool) (hn : x.length ≤ 1048576) (k : Nat) (hk : 1048576 < k) : impl_Spray_tokens.f k x b c = some (total 0 x) := by
  unfold impl_Spray_tokens.f
  rw [show (0 : Int) = ((0 : Nat) : Int) from rfl, tokens_l0 x hn x.length k 0 _ (by omega) (by omega) (by omega), List.drop_zero]
theorem ilit_is (a : Int) : impl_GoodSpray_lit1.f a = some (!decide (0 ≤ a ∧ a ≤ 64)) := by
  unfold impl_GoodSpray_lit1.f
  rw [iin_is]
  rfl
theorem idx_l0 (x : List Int) (hn : x.length ≤ 1048576) (d : Nat) : ∀ (i : Nat), x.length - i = d → i ≤ x.length →
    ∃ r : Int, (r ≥ 0 ↔ ¬ ∀ y ∈ x.drop i, 0 ≤ y ∧ y ≤ 64) ∧ ∀ k, d < k → slices_IndexFunc_int_int_impl_GoodSpray_lit1.l0 k x (x.length : Int) (i : Int) = some r := by
  induction d with
  | zero =>
    intro i hd hi
    refine ⟨-1, ?_, fun k hk => ?_⟩
    · rw [List.drop_of_length_le (by omega)]
      simp
    · obtain ⟨k, rfl⟩ : ∃ m, k = m + 1 := ⟨k - 1, by omega⟩
      simp only [slices_IndexFunc_int_int_impl_GoodSpray_lit1.l0]
      rw [if_neg (by omega)]
  | succ d ih =>
    intro i hd hi
    by_cases c : 0 ≤ rd x (i : Int) ∧ rd x (i : Int) ≤ 64
    · obtain ⟨r, hr, h2⟩ := ih (i + 1) (by omega) (by omega)
      refine ⟨r, ?_, fun k hk => ?_⟩
      · rw [hr, dropInt x i (by omega)]
        simp only [List.forall_mem_cons, c, true_and, and_self]
      · obtain ⟨k, rfl⟩ : ∃ m, k = m + 1 := ⟨k - 1, by omega⟩
        simp only [slices_IndexFunc_int_int_impl_GoodSpray_lit1.l0]
        rw [if_pos (by omega), if_pos (by omega), if_pos (by omega), ilit_is, wrap_succ (n := x.length) (by omega) (by omega)]
        simp only [Option.bind_some, c, and_self, decide_true, Bool.not_true, Bool.false_eq_true, if_false]
        exact h2 k (by omega)
    · refine ⟨(i : Int), ?_, fun k hk => ?_⟩
      · rw [dropInt x i (by omega)]
        exact ⟨fun _ h => c (h _ List.mem_cons_self), fun _ => by omega⟩
      · obtain ⟨k, rfl⟩ : ∃ m, k = m + 1 := ⟨k - 1, by omega⟩
        simp only [slices_IndexFunc_int_int_impl_GoodSpray_lit1.l0]
        rw [if_pos (by omega), if_pos (by omega), if_pos (by omega), ilit_is, decide_eq_false c]
        simp only [Option.bind_some, Bool.not_false, if_true]
theorem cont_is (x : List Int) (hn : x.length ≤ 1048576) (k : Nat) (hk : 1048576 < k) : slices_ContainsFunc_int_int_impl_GoodSpray_lit1.f k x = some (decide (¬ ∀ y ∈ x, 0 ≤ y ∧ y ≤ 64)) := by
  unfold slices_ContainsFunc_int_int_impl_GoodSpray_lit1.f slices_IndexFunc_int_int_impl_GoodSpray_lit1.f
  obtain ⟨r, hr, e⟩ := idx_l0 x hn x.length 0 (by omega) (by omega)
  rw [show (0 : Int) = ((0 : Nat) : Int) from rfl, e k (by omega)]
  simp only [Option.bind_some]
  rw [List.drop_zero] at hr
  congr 1
  rw [Bool.eq_iff_iff, decide_eq_true_eq, decide_eq_true_eq]
  exact hr

theorem newSpray_eq (a b c d : Int) (ha : (Lit.int .i64 a).wf = true) : impl_NewSpray.f a b c d = spec_NewSpray.f a b c d := by
  unfold impl_NewSpray.f spec_NewSpray.f impl_isWide.f
  simp only [within_eq, in_eq, Option.bind_some]
  by_cases h : 2 ≤ a ∧ a ≤ 8
  · have e : wrap64 (a - 1) = a - 1 := wrap_in (by omega) (by omega)
    simp only [e, h, and_self, decide_true, if_true]
    by_cases h1 : 0 ≤ b ∧ b ≤ a - 1
    · simp only [h1, and_self, decide_true, if_true]
      rw [if_neg (show ¬ b < 0 by omega), if_neg (show ¬ b ≥ a by omega)]
      by_cases h2 : 0 ≤ c ∧ c ≤ a - 1
      · simp only [h2, and_self, decide_true, if_true]
        rw [if_neg (show ¬ c < 0 by omega), if_neg (show ¬ c ≥ a by omega)]
      · simp only [h2, decide_false]
        by_cases h3 : c < 0
        · rw [if_pos h3]; rfl
        · rw [if_neg h3, if_pos (show c ≥ a by omega)]; rfl
    · simp only [h1, decide_false]
      by_cases h3 : b < 0
      · rw [if_pos h3]; rfl
      · rw [if_neg h3, if_pos (show b ≥ a by omega)]; rfl
  · simp [h]
theorem newSpray_some (a b c d : Int) : ∃ l tt there ok, spec_NewSpray.f a b c d = some (l, tt, there, ok) ∧ l.length ≤ 8 := by
  unfold spec_NewSpray.f
  simp only [in_eq, Option.bind_some]
  by_cases h : 2 ≤ a ∧ a ≤ 8
  · rw [if_pos (by simpa using h)]
    by_cases h1 : b < 0
    · rw [if_pos h1]; exact ⟨_, _, _, _, rfl, by simp⟩
    · rw [if_neg h1]
      by_cases h2 : b ≥ a
      · rw [if_pos h2]; exact ⟨_, _, _, _, rfl, by simp⟩
      · rw [if_neg h2]
        by_cases h3 : c < 0
        · rw [if_pos h3]; exact ⟨_, _, _, _, rfl, by simp⟩
        · rw [if_neg h3]
          by_cases h4 : c ≥ a
          · rw [if_pos h4]; exact ⟨_, _, _, _, rfl, by simp⟩
          · rw [if_neg h4]
            by_cases h5 : b = c
            · rw [if_pos h5]; exact ⟨_, _, _, _, rfl, by simp⟩
            · rw [if_neg h5]
              by_cases h6 : 1 ≤ d ∧ d ≤ 64
              · rw [if_pos (by simpa using h6), if_pos (by omega), if_pos (by omega), if_pos (by omega), if_pos (by rw [List.length_replicate]; omega)]
                exact ⟨_, _, _, _, rfl, by rw [List.length_set, List.length_replicate]; omega⟩
              · rw [if_neg (by simpa using h6)]; exact ⟨_, _, _, _, rfl, by simp⟩
  · rw [if_neg (by simpa using h)]; exact ⟨_, _, _, _, rfl, by simp⟩

/-! Two meet. -/
theorem clone_is (x : List Int) (h : x.length ≤ 1048576) : slices_Clone_int_int.f x = some x := by
  unfold slices_Clone_int_int.f
  rw [Option.bind_some, if_pos (by simp; omega), List.nil_append]
theorem sum_set : ∀ (l : List Int) (i : Nat) (v : Int), i < l.length → (l.set i v).sum = l.sum - rd l (i : Int) + v
  | [], i, v, h => absurd h (by simp)
  | x :: l, 0, v, h => by
    rw [show rd (x :: l) ((0 : Nat) : Int) = x from rfl, List.set_cons_zero, List.sum_cons, List.sum_cons]
    omega
  | x :: l, i + 1, v, h => by
    rw [show rd (x :: l) ((i + 1 : Nat) : Int) = rd l (i : Int) from rfl, List.set_cons_succ, List.sum_cons, List.sum_cons, sum_set l i v (by simpa using h)]
    omega
theorem rd_put (l : List Int) (i : Nat) (v j : Int) (hi : i < l.length) (hj : 0 ≤ j) : rd (l.set i v) j = if j = (i : Int) then v else rd l j := by
  unfold rd
  rw [List.getD_eq_getElem?_getD, List.getD_eq_getElem?_getD, List.getElem?_set]
  by_cases c : i = j.toNat
  · rw [if_pos c, if_pos hi, if_pos (by omega)]
    rfl
  · rw [if_neg c, if_neg (by omega)]
/-- What a meeting leaves as it was. -/
def Keep (x : List Int) (b : Int) (R : List Int × Int × Bool × Bool) : Prop := R.2.1 = b ∧ R.1.length = x.length ∧ rd R.1 b = 0 ∧ (∀ y ∈ R.1, 0 ≤ y ∧ y ≤ 64) ∧ R.1.sum = x.sum
theorem keep_give (x : List Int) (b : Int) (c : Bool) (P Q : Int) (hP : 0 ≤ P ∧ P < (x.length : Int)) (hQ : 0 ≤ Q ∧ Q < (x.length : Int)) (hb : 0 ≤ b) (n1 : P ≠ b) (n2 : Q ≠ b) (n3 : P ≠ Q) (hz : rd x b = 0) (hm : ∀ y ∈ x, 0 ≤ y ∧ y ≤ 64) (p2 : rd x P ≥ 2) (p64 : rd x P ≤ 64) (q0 : rd x Q = 0) :
    Keep x b ((x.set Q.toNat (wrap64 (Int.tdiv (rd x P) 2))).set P.toNat (wrap64 ((rd (x.set Q.toNat (wrap64 (Int.tdiv (rd x P) 2))) P) - (rd (x.set Q.toNat (wrap64 (Int.tdiv (rd x P) 2))) Q))), b, c, true) := by
  have td : Int.tdiv (rd x P) 2 = rd x P / 2 := Int.tdiv_eq_ediv_of_nonneg (by omega)
  have wv : wrap64 (rd x P / 2) = rd x P / 2 := wrap_in (by omega) (by omega)
  have eP : ((P.toNat : Nat) : Int) = P := by omega
  have eQ : ((Q.toNat : Nat) : Int) = Q := by omega
  have a1 : rd (x.set Q.toNat (rd x P / 2)) P = rd x P := by rw [rd_put _ _ _ _ (by omega) hP.1, eQ, if_neg n3]
  have a2 : rd (x.set Q.toNat (rd x P / 2)) Q = rd x P / 2 := by rw [rd_put _ _ _ _ (by omega) hQ.1, eQ, if_pos rfl]
  rw [td, wv, a1, a2, wrap_in (by omega) (by omega)]
  refine ⟨rfl, by rw [List.length_set, List.length_set], ?_, ?_, ?_⟩
  · dsimp only
    rw [rd_put _ _ _ _ (by rw [List.length_set]; omega) hb, eP, if_neg (fun e => n1 e.symm), rd_put _ _ _ _ (by omega) hb, eQ, if_neg (fun e => n2 e.symm)]
    exact hz
  · intro y hy
    rcases List.mem_or_eq_of_mem_set hy with h | h
    · rcases List.mem_or_eq_of_mem_set h with h | h
      · exact hm y h
      · omega
    · omega
  · dsimp only
    rw [sum_set _ _ _ (by rw [List.length_set]; omega), eP, a1, sum_set _ _ _ (by omega), eQ, q0]
    omega
theorem meet_is (x : List Int) (b : Int) (c : Bool) (A B : Int) (h8 : 2 ≤ x.length ∧ x.length ≤ 8) (hb : 0 ≤ b ∧ b < (x.length : Int)) (hz : rd x b = 0) (hp : ∀ j : Int, 0 ≤ j → j < (x.length : Int) → 0 ≤ rd x j ∧ rd x j ≤ 64) (hm : ∀ y ∈ x, 0 ≤ y ∧ y ≤ 64) (hg : ∀ k, 1048590 ≤ k → impl_GoodSpray.f k x b c = some true) :
    ∃ R : List Int × Int × Bool × Bool, (R.2.2.2 = true → Keep x b R) ∧ R.1.length ≤ x.length ∧ ∀ k, 1048600 ≤ k → spec_l15Meet.f k x b c A B = some R ∧ impl_MeetBoth.f k x b c A B = some R := by
  have no : ∀ k, 1 ≤ k → spec_l15Meet.j0 k true x b c A B = some (([] : List Int), 0, false, false) ∧ impl_MeetBoth.j0 k true x b c A B = some (([] : List Int), 0, false, false) := by
    intro k hk
    obtain ⟨k, rfl⟩ : ∃ m, k = m + 1 := ⟨k - 1, by omega⟩
    rw [spec_l15Meet.j0, impl_MeetBoth.j0, if_pos rfl, if_pos rfl]
    exact ⟨rfl, rfl⟩
  have w1 : wrap64 ((x.length : Int) - 1) = (x.length : Int) - 1 := wrap_in (by omega) (by omega)
  by_cases r : (0 ≤ A ∧ A < (x.length : Int)) ∧ (0 ≤ B ∧ B < (x.length : Int)) ∧ A ≠ B
  · obtain ⟨hA, hB, hne⟩ := r
    have S : ∀ k, spec_l15Meet.f k x b c A B = spec_l15Meet.j0 k false x b c A B := fun k => by
      unfold spec_l15Meet.f
      rw [if_neg (by omega), if_neg (by omega), if_neg (by omega), if_neg (by omega), beq_eq_false_iff_ne.mpr hne]
    have I : ∀ k, 1048590 ≤ k → impl_MeetBoth.f k x b c A B = impl_MeetBoth.j0 k false x b c A B := fun k hk => by
      unfold impl_MeetBoth.f
      rw [hg k hk, Option.bind_some, if_pos rfl, w1, iin_is, iin_is, decide_eq_true (show 0 ≤ A ∧ A ≤ (x.length : Int) - 1 by omega), decide_eq_true (show 0 ≤ B ∧ B ≤ (x.length : Int) - 1 by omega), Option.bind_some, if_pos rfl, Option.bind_some, if_pos rfl, beq_eq_false_iff_ne.mpr hne]
    have pa := hp A hA.1 hA.2
    have pb := hp B hB.1 hB.2
    have tA0 := eq_true hA.1
    have tA1 := eq_true hA.2
    have tB0 := eq_true hB.1
    have tB1 := eq_true hB.2
    have len : (([] : List Int).length + x.length < 17592186044416) = True := eq_true (by simp; omega)
    have ws : wrap64 (rd x A + rd x B) = rd x A + rd x B := wrap_in (by omega) (by omega)
    have red : ∀ R, (R.2.2.2 = true → Keep x b R) → R.1.length ≤ x.length → (∀ k, spec_l15Meet.j0 (k + 1) false x b c A B = some R ∧ impl_MeetBoth.j0 (k + 1) false x b c A B = some R) → ∃ R : List Int × Int × Bool × Bool, (R.2.2.2 = true → Keep x b R) ∧ R.1.length ≤ x.length ∧ ∀ k, 1048600 ≤ k → spec_l15Meet.f k x b c A B = some R ∧ impl_MeetBoth.f k x b c A B = some R := by
      intro R hR hl h
      refine ⟨R, hR, hl, fun k hk => ?_⟩
      obtain ⟨k, rfl⟩ : ∃ m, k = m + 1 := ⟨k - 1, by omega⟩
      rw [S, I _ (by omega)]
      exact h k
    have kx : ∀ (c' : Bool), Keep x b (x, b, c', true) := fun c' => ⟨rfl, rfl, hz, hm, rfl⟩
    by_cases c1 : A = b
    · subst c1
      have nB : (B = A) = False := eq_false fun e => hne e.symm
      rw [hz] at pa ws
      have z00 : wrap64 (0 + 0) = 0 := wrap_in (by omega) (by omega)
      by_cases c2 : rd x B = 0
      · refine red (x, A, c, true) (fun _ => kx _) (Nat.le_refl _) fun k => ?_
        rw [spec_l15Meet.j0, impl_MeetBoth.j0, clone_is x (by omega)]
        unfold spec_l15Give.f
        cases c <;> simp only [Option.bind_some, List.nil_append, len, tA0, tA1, tB0, tB1, hz, c2, ws, z00, nB, if_true, if_false, Bool.false_eq_true, ge_iff_le, Int.le_refl] <;> exact ⟨by first | trivial | rfl, by first | trivial | rfl⟩
      · have g1 : (0 ≥ rd x B) = False := eq_false (by omega)
        have g2 : (rd x B > 0) = True := eq_true (by omega)
        refine red (x, A, true, true) (fun _ => kx _) (Nat.le_refl _) fun k => ?_
        rw [spec_l15Meet.j0, impl_MeetBoth.j0, clone_is x (by omega)]
        unfold spec_l15Give.f
        have ws' : wrap64 (rd x B) = rd x B := wrap_in (by omega) (by omega)
        cases c <;> simp only [Option.bind_some, List.nil_append, len, tA0, tA1, tB0, tB1, hz, ws, g1, g2, nB, if_true, if_false, Bool.false_eq_true, Int.zero_add, ws', decide_true] <;> exact ⟨by first | trivial | rfl, by first | trivial | rfl⟩
    · have nA : (A = b) = False := eq_false c1
      by_cases c2 : B = b
      · subst c2
        rw [hz] at pb ws
        have g1 : (rd x A ≥ 0) = True := eq_true pa.1
        rw [Int.add_zero] at ws
        refine red (x, B, c || decide (rd x A > 0), true) (fun _ => kx _) (Nat.le_refl _) fun k => ?_
        rw [spec_l15Meet.j0, impl_MeetBoth.j0, clone_is x (by omega)]
        unfold spec_l15Give.f
        cases c <;> simp only [Option.bind_some, List.nil_append, len, tA0, tA1, tB0, tB1, hz, ws, g1, nA, if_true, if_false, Bool.false_eq_true, Int.add_zero, Bool.true_or, Bool.false_or] <;> exact ⟨by first | trivial | rfl, by first | trivial | rfl⟩
      · have nB : (B = b) = False := eq_false c2
        by_cases c3 : rd x A ≥ rd x B
        · have g1 := eq_true c3
          by_cases c4 : rd x A ≥ 2
          · have g2 := eq_true c4
            by_cases c5 : rd x B = 0
            · have g3 := eq_true c5
              refine red (_, b, c, true) (fun _ => keep_give x b c A B hA hB hb.1 c1 c2 hne hz hm c4 (by omega) c5) (by rw [List.length_set, List.length_set]; exact Nat.le_refl _) fun k => ?_
              rw [spec_l15Meet.j0, impl_MeetBoth.j0, clone_is x (by omega)]
              unfold spec_l15Give.f
              simp only [Option.bind_some, List.nil_append, len, tA0, tA1, tB0, tB1, g1, g2, g3, nA, nB, if_true, if_false, Bool.false_eq_true]
              exact ⟨by first | trivial | rfl, by first | trivial | rfl⟩
            · have g3 := eq_false c5
              have g4 : (rd x A = 0) = False := eq_false (by omega)
              refine red (x, b, c, true) (fun _ => kx _) (Nat.le_refl _) fun k => ?_
              rw [spec_l15Meet.j0, impl_MeetBoth.j0, clone_is x (by omega)]
              unfold spec_l15Give.f
              simp only [Option.bind_some, List.nil_append, len, tA0, tA1, tB0, tB1, g1, g2, g3, g4, nA, nB, if_true, if_false, Bool.false_eq_true, ite_self]
              exact ⟨by first | trivial | rfl, by first | trivial | rfl⟩
          · have g2 := eq_false c4
            have g3 : (rd x B ≥ 2) = False := eq_false (by omega)
            refine red (x, b, c, true) (fun _ => kx _) (Nat.le_refl _) fun k => ?_
            rw [spec_l15Meet.j0, impl_MeetBoth.j0, clone_is x (by omega)]
            unfold spec_l15Give.f
            simp only [Option.bind_some, List.nil_append, len, tA0, tA1, tB0, tB1, g1, g2, g3, nA, nB, if_true, if_false, Bool.false_eq_true]
            exact ⟨by first | trivial | rfl, by first | trivial | rfl⟩
        · have g1 := eq_false c3
          have z1 : (rd x B = 0) = False := eq_false (by omega)
          by_cases c4 : rd x B ≥ 2
          · have g2 := eq_true c4
            by_cases c5 : rd x A = 0
            · have g3 := eq_true c5
              have g4 : (rd x A ≥ 2) = False := eq_false (by omega)
              refine red (_, b, c, true) (fun _ => keep_give x b c B A hB hA hb.1 c2 c1 (fun e => hne e.symm) hz hm c4 (by omega) c5) (by rw [List.length_set, List.length_set]; exact Nat.le_refl _) fun k => ?_
              rw [spec_l15Meet.j0, impl_MeetBoth.j0, clone_is x (by omega)]
              unfold spec_l15Give.f
              simp only [Option.bind_some, List.nil_append, len, tA0, tA1, tB0, tB1, g1, g2, g3, g4, nA, nB, z1, if_true, if_false, Bool.false_eq_true]
              exact ⟨by first | trivial | rfl, by first | trivial | rfl⟩
            · have g3 := eq_false c5
              refine red (x, b, c, true) (fun _ => kx _) (Nat.le_refl _) fun k => ?_
              rw [spec_l15Meet.j0, impl_MeetBoth.j0, clone_is x (by omega)]
              unfold spec_l15Give.f
              simp only [Option.bind_some, List.nil_append, len, tA0, tA1, tB0, tB1, g1, g2, g3, nA, nB, z1, if_true, if_false, Bool.false_eq_true, ite_self]
              exact ⟨by first | trivial | rfl, by first | trivial | rfl⟩
          · have g2 := eq_false c4
            have g4 : (rd x A ≥ 2) = False := eq_false (by omega)
            refine red (x, b, c, true) (fun _ => kx _) (Nat.le_refl _) fun k => ?_
            rw [spec_l15Meet.j0, impl_MeetBoth.j0, clone_is x (by omega)]
            unfold spec_l15Give.f
            simp only [Option.bind_some, List.nil_append, len, tA0, tA1, tB0, tB1, g1, g2, g4, nA, nB, z1, if_true, if_false, Bool.false_eq_true]
            exact ⟨by first | trivial | rfl, by first | trivial | rfl⟩
  · refine ⟨(([] : List Int), 0, false, false), fun h => (by cases h), by simp, fun k hk => ?_⟩
    have nk := no k (by omega)
    refine ⟨?_, ?_⟩
    · unfold spec_l15Meet.f
      by_cases d1 : A < 0
      · rw [if_pos d1]
        exact nk.1
      · rw [if_neg d1]
        by_cases d2 : A ≥ (x.length : Int)
        · rw [if_pos d2]
          exact nk.1
        · rw [if_neg d2]
          by_cases d3 : B < 0
          · rw [if_pos d3]
            exact nk.1
          · rw [if_neg d3]
            by_cases d4 : B ≥ (x.length : Int)
            · rw [if_pos d4]
              exact nk.1
            · rw [if_neg d4]
              have d5 : A = B := Classical.byContradiction fun h => r ⟨⟨by omega, by omega⟩, ⟨by omega, by omega⟩, h⟩
              rw [show (A == B) = true from beq_iff_eq.mpr d5]
              exact nk.1
    · unfold impl_MeetBoth.f
      rw [hg k (by omega), Option.bind_some, if_pos rfl, w1, iin_is, iin_is, Option.bind_some, Option.bind_some]
      by_cases d1 : 0 ≤ A ∧ A ≤ (x.length : Int) - 1
      · rw [decide_eq_true d1, if_pos rfl]
        by_cases d2 : 0 ≤ B ∧ B ≤ (x.length : Int) - 1
        · rw [decide_eq_true d2, if_pos rfl]
          have d5 : A = B := Classical.byContradiction fun h => r ⟨⟨by omega, by omega⟩, ⟨by omega, by omega⟩, h⟩
          rw [show (A == B) = true from beq_iff_eq.mpr d5]
          exact nk.2
        · rw [decide_eq_false d2, if_neg Bool.false_ne_true]
          exact nk.2
      · rw [decide_eq_false d1, if_neg Bool.false_ne_true]
        exact nk.2

/-! Some meet, one behind another. -/
def Good (x : List Int) (b : Int) : Prop := (2 ≤ x.length ∧ x.length ≤ 8) ∧ (0 ≤ b ∧ b < (x.length : Int)) ∧ rd x b = 0 ∧ (∀ y ∈ x, 0 ≤ y ∧ y ≤ 64) ∧ 1 ≤ x.sum ∧ x.sum ≤ 64
theorem total_sum : ∀ (l : List Int) (m : Int), (∀ y ∈ l, 0 ≤ y ∧ y ≤ 64) → 0 ≤ m → m + 64 * l.length ≤ 100000 → total m l = m + l.sum
  | [], m, _, _, _ => by simp [total]
  | x :: l, m, h, h0, h1 => by
    have hx := h x List.mem_cons_self
    simp only [List.length_cons] at h1
    have e : total m (x :: l) = total (wrap64 (m + x)) l := rfl
    rw [e, wrap_in (by omega) (by omega), total_sum l (m + x) (fun y hy => h y (List.mem_cons_of_mem _ hy)) (by omega) (by omega), List.sum_cons]
    omega
theorem igood_of {x : List Int} {b : Int} (g : Good x b) (c : Bool) (k : Nat) (hk : 1048590 ≤ k) : impl_GoodSpray.f k x b c = some true := by
  obtain ⟨h8, hb, hz, hm, hs⟩ := g
  obtain ⟨k, rfl⟩ : ∃ m, k = m + 1 := ⟨k - 1, by omega⟩
  unfold impl_GoodSpray.f impl_isWide.f
  have tt := total_sum x 0 hm (by omega) (by omega)
  have nz : (rd x b != 0) = false := by rw [hz]; rfl
  rw [iin_is, iin_is, decide_eq_true (show 2 ≤ (x.length : Int) ∧ (x.length : Int) ≤ 8 by omega), Option.bind_some, Option.bind_some, if_pos rfl, wrap_in (x := (x.length : Int) - 1) (by omega) (by omega), decide_eq_true (show 0 ≤ b ∧ b ≤ (x.length : Int) - 1 by omega), Option.bind_some, if_pos rfl, if_pos hb.1, if_pos hb.2, nz, impl_GoodSpray.j0, if_neg Bool.false_ne_true, cont_is x (by omega) k (by omega), Option.bind_some, decide_eq_false (show ¬ ¬ ∀ y ∈ x, 0 ≤ y ∧ y ≤ 64 from fun h => h hm), if_neg Bool.false_ne_true, tokens_is x b c (by omega) k (by omega), Option.bind_some, iin_is, decide_eq_true (show 1 ≤ total 0 x ∧ total 0 x ≤ 64 by omega)]
  rfl
theorem keep_good {x : List Int} {b : Int} {R : List Int × Int × Bool × Bool} (g : Good x b) (h : Keep x b R) : Good R.1 R.2.1 := by
  obtain ⟨h8, hb, hz, hm, hs⟩ := g
  obtain ⟨k1, k2, k3, k4, k5⟩ := h
  rw [k1]
  exact ⟨by omega, by omega, k3, k4, by omega⟩
theorem sum_rep : ∀ n : Nat, (List.replicate n (0 : Int)).sum = 0
  | 0 => rfl
  | n + 1 => by rw [List.replicate_succ, List.sum_cons, sum_rep n]; rfl
theorem rd_rep0 (n : Nat) (j : Int) : rd (List.replicate n 0) j = 0 := by
  unfold rd
  rw [List.getD_eq_getElem?_getD, List.getElem?_replicate]
  split <;> rfl
theorem new_both (a b c d : Int) (ha : (Lit.int .i64 a).wf = true) : ∃ R : List Int × Int × Bool × Bool, R.1.length ≤ 8 ∧ (R.2.2.2 = true → Good R.1 R.2.1) ∧ spec_NewSpray.f a b c d = some R ∧ impl_NewSpray.f a b c d = some R := by
  have hi := newSpray_eq a b c d ha
  have key : ∃ R : List Int × Int × Bool × Bool, R.1.length ≤ 8 ∧ (R.2.2.2 = true → Good R.1 R.2.1) ∧ spec_NewSpray.f a b c d = some R := by
    have bad : ∀ R : List Int × Int × Bool × Bool, R = (([] : List Int), 0, false, false) → R.1.length ≤ 8 ∧ (R.2.2.2 = true → Good R.1 R.2.1) := fun R e => by
      subst e
      exact ⟨by simp, fun h => by cases h⟩
    unfold spec_NewSpray.f
    rw [in_eq, in_eq]
    simp only [Option.bind_some, decide_eq_true_eq]
    by_cases h : 2 ≤ a ∧ a ≤ 8
    · rw [if_pos h]
      by_cases h1 : b < 0
      · rw [if_pos h1]; exact ⟨_, (bad _ rfl).1, (bad _ rfl).2, rfl⟩
      · rw [if_neg h1]
        by_cases h2 : b ≥ a
        · rw [if_pos h2]; exact ⟨_, (bad _ rfl).1, (bad _ rfl).2, rfl⟩
        · rw [if_neg h2]
          by_cases h3 : c < 0
          · rw [if_pos h3]; exact ⟨_, (bad _ rfl).1, (bad _ rfl).2, rfl⟩
          · rw [if_neg h3]
            by_cases h4 : c ≥ a
            · rw [if_pos h4]; exact ⟨_, (bad _ rfl).1, (bad _ rfl).2, rfl⟩
            · rw [if_neg h4]
              by_cases h5 : b = c
              · rw [if_pos h5]; exact ⟨_, (bad _ rfl).1, (bad _ rfl).2, rfl⟩
              · rw [if_neg h5]
                by_cases h6 : 1 ≤ d ∧ d ≤ 64
                · have eb : ((b.toNat : Nat) : Int) = b := by omega
                  rw [if_pos h6, if_pos (by omega), if_pos (by omega), if_pos (by omega), if_pos (by rw [List.length_replicate]; omega)]
                  refine ⟨_, by rw [List.length_set, List.length_replicate]; omega, fun _ => ⟨by dsimp only; rw [List.length_set, List.length_replicate]; omega, by dsimp only; rw [List.length_set, List.length_replicate]; omega, ?_, ?_, ?_⟩, rfl⟩
                  · dsimp only
                    rw [rd_put _ _ _ _ (by rw [List.length_replicate]; omega) (by omega), eb, if_neg (fun e => h5 e.symm), rd_rep0]
                  · intro y hy
                    rcases List.mem_or_eq_of_mem_set hy with e | e
                    · have := List.eq_of_mem_replicate e
                      omega
                    · omega
                  · dsimp only
                    rw [sum_set _ _ _ (by rw [List.length_replicate]; omega), sum_rep, rd_rep0]
                    omega
                · rw [if_neg h6]; exact ⟨_, (bad _ rfl).1, (bad _ rfl).2, rfl⟩
    · rw [if_neg h]; exact ⟨_, (bad _ rfl).1, (bad _ rfl).2, rfl⟩
  obtain ⟨R, h1, h2, h3⟩ := key
  exact ⟨R, h1, h2, h3, by rw [hi]; exact h3⟩
theorem good_meet {x : List Int} {b : Int} (g : Good x b) (c : Bool) (A B : Int) : ∃ R : List Int × Int × Bool × Bool, (R.2.2.2 = true → Good R.1 R.2.1) ∧ ∀ k, 1048600 ≤ k → spec_l15Meet.f k x b c A B = some R ∧ impl_MeetBoth.f k x b c A B = some R := by
  have g' := g
  obtain ⟨h8, hb, hz, hm, hs⟩ := g'
  obtain ⟨R, h1, _, h2⟩ := meet_is x b c A B h8 hb hz (fun j h0 h1 => hm _ (by
    unfold rd
    rw [List.getD_eq_getElem?_getD, List.getElem?_eq_getElem (show j.toNat < x.length by omega)]
    exact List.getElem_mem _)) hm (fun k hk => igood_of g c k hk)
  exact ⟨R, fun h => keep_good g (h1 h), h2⟩
theorem play_l0 (l : List S60) (hl : l.length ≤ 1048576) (d : Nat) : ∀ (i : Nat) (m : Int) (x : List Int) (b : Int) (c : Bool), Good x b → l.length - i = d → i ≤ l.length →
    ∃ R : List Int × Int × Bool × Int × Bool, R.1.length ≤ 8 ∧ ∀ k, 1048700 + d < k → spec_PlaySpray.l0 k m l (l.length : Int) (i : Int) x b c = some R ∧ impl_PlaySpray.l0 k m l (l.length : Int) (i : Int) x b c = some R := by
  induction d with
  | zero =>
    intro i m x b c g hd hi
    refine ⟨(x, b, c, m, true), g.1.2, fun k hk => ?_⟩
    obtain ⟨k, rfl⟩ : ∃ m, k = m + 1 := ⟨k - 1, by omega⟩
    have q : ¬ (i : Int) < (l.length : Int) := by omega
    rw [spec_PlaySpray.l0, impl_PlaySpray.l0, if_neg q, if_neg q]
    exact ⟨rfl, rfl⟩
  | succ d ih =>
    intro i m x b c g hd hi
    have q : (i : Int) < (l.length : Int) := by omega
    have q0 : 0 ≤ (i : Int) := by omega
    have wr : wrap64 ((i : Int) + 1) = ((i + 1 : Nat) : Int) := wrap_succ (n := l.length) (by omega) (by omega)
    obtain ⟨P, hP, e⟩ := good_meet g c (rd_T60 l (i : Int)).f0 (rd_T60 l (i : Int)).f1
    by_cases ok : P.2.2.2 = true
    · by_cases t : P.2.2.1 = true ∧ ¬ c = true
      · obtain ⟨R, hR, r⟩ := ih (i + 1) ((i + 1 : Nat) : Int) P.1 P.2.1 P.2.2.1 (hP ok) (by omega) (by omega)
        refine ⟨R, hR, fun k hk => ?_⟩
        obtain ⟨k, rfl⟩ : ∃ m, k = m + 1 := ⟨k - 1, by omega⟩
        rw [spec_PlaySpray.l0, impl_PlaySpray.l0, if_pos q, if_pos q, if_pos q0, if_pos q0, if_pos q, if_pos q, (e k (by omega)).1, (e k (by omega)).2, Option.bind_some, Option.bind_some, if_pos ok, if_pos ok, if_pos t.1, if_pos t.1, if_neg t.2, if_neg t.2, wr]
        exact r k (by omega)
      · obtain ⟨R, hR, r⟩ := ih (i + 1) m P.1 P.2.1 P.2.2.1 (hP ok) (by omega) (by omega)
        refine ⟨R, hR, fun k hk => ?_⟩
        obtain ⟨k, rfl⟩ : ∃ m, k = m + 1 := ⟨k - 1, by omega⟩
        rw [spec_PlaySpray.l0, impl_PlaySpray.l0, if_pos q, if_pos q, if_pos q0, if_pos q0, if_pos q, if_pos q, (e k (by omega)).1, (e k (by omega)).2, Option.bind_some, Option.bind_some, if_pos ok, if_pos ok, wr]
        by_cases t1 : P.2.2.1 = true
        · have t2 : c = true := Classical.byContradiction fun h => t ⟨t1, h⟩
          rw [if_pos t1, if_pos t1, if_pos t2, if_pos t2]
          exact r k (by omega)
        · rw [if_neg t1, if_neg t1]
          exact r k (by omega)
    · refine ⟨(([] : List Int), 0, false, 0, false), by simp, fun k hk => ?_⟩
      obtain ⟨k, rfl⟩ : ∃ m, k = m + 1 := ⟨k - 1, by omega⟩
      rw [spec_PlaySpray.l0, impl_PlaySpray.l0, if_pos q, if_pos q, if_pos q0, if_pos q0, if_pos q, if_pos q, (e k (by omega)).1, (e k (by omega)).2, Option.bind_some, Option.bind_some, if_neg ok, if_neg ok]
      exact ⟨rfl, rfl⟩
theorem play_is (a b c d : Int) (ha : (Lit.int .i64 a).wf = true) (l : List S60) (hl : l.length ≤ 1048576) :
    ∃ R : List Int × Int × Bool × Int × Bool, R.1.length ≤ 8 ∧ ∀ k, 2097300 ≤ k → spec_PlaySpray.f k a b c d l = some R ∧ impl_PlaySpray.f k a b c d l = some R := by
  unfold spec_PlaySpray.f impl_PlaySpray.f
  obtain ⟨P, p1, p2, p3, p4⟩ := new_both a b c d ha
  rw [p3, p4]
  have no : ∀ k, 1 ≤ k → ∀ (x : List Int) (b : Int) (c : Bool), spec_PlaySpray.j0 k l true x b c = some (([] : List Int), 0, false, 0, false) ∧ impl_PlaySpray.j0 k l true x b c = some (([] : List Int), 0, false, 0, false) := by
    intro k hk x b c
    obtain ⟨k, rfl⟩ : ∃ m, k = m + 1 := ⟨k - 1, by omega⟩
    rw [spec_PlaySpray.j0, impl_PlaySpray.j0, if_pos rfl, if_pos rfl]
    exact ⟨rfl, rfl⟩
  by_cases ok : P.2.2.2 = true
  · by_cases q : (l.length : Int) > 100
    · refine ⟨(([] : List Int), 0, false, 0, false), by simp, fun k hk => ?_⟩
      rw [Option.bind_some, Option.bind_some, if_pos ok, if_pos ok, decide_eq_true q]
      exact no k (by omega) _ _ _
    · obtain ⟨R, hR, r⟩ := play_l0 l hl l.length 0 0 P.1 P.2.1 P.2.2.1 (p2 ok) (by omega) (by omega)
      refine ⟨R, hR, fun k hk => ?_⟩
      obtain ⟨k, rfl⟩ : ∃ m, k = m + 1 := ⟨k - 1, by omega⟩
      rw [Option.bind_some, Option.bind_some, if_pos ok, if_pos ok, decide_eq_false q, spec_PlaySpray.j0, impl_PlaySpray.j0, if_neg Bool.false_ne_true, if_neg Bool.false_ne_true]
      exact r k (by omega)
  · refine ⟨(([] : List Int), 0, false, 0, false), by simp, fun k hk => ?_⟩
    rw [Option.bind_some, Option.bind_some, if_neg ok, if_neg ok]
    exact no k (by omega) _ _ _
/-! Those who meet, handed over. -/
def cvM (c : S57) : S60 := ⟨c.f0, c.f1⟩
theorem drop57 (l : List S57) (i : Nat) (h : i < l.length) : l.drop i = rd_T57 l (i : Int) :: l.drop (i + 1) := by
  rw [List.drop_eq_getElem_cons h]
  unfold rd_T57
  simp [List.getD_eq_getElem?_getD, List.getElem?_eq_getElem h]
theorem toM_l0 (a : List S57) (hn : a.length ≤ 1048576) (d : Nat) : ∀ (k i : Nat) (x : List S60), a.length - i = d → i ≤ a.length → x.length = a.length → d < k → laws_toMeetS.l0 k a x (i : Int) = some (x.take i ++ (a.drop i).map cvM) := by
  induction d with
  | zero =>
    intro k i x hd hi hx hk
    obtain ⟨k, rfl⟩ : ∃ m, k = m + 1 := ⟨k - 1, by omega⟩
    rw [laws_toMeetS.l0, if_neg (by omega), List.take_of_length_le (by omega), List.drop_of_length_le (by omega), List.map_nil, List.append_nil]
  | succ d ih =>
    intro k i x hd hi hx hk
    obtain ⟨k, rfl⟩ : ∃ m, k = m + 1 := ⟨k - 1, by omega⟩
    rw [laws_toMeetS.l0, if_pos (by omega), if_pos (by omega)]
    unfold laws_toMeet.f
    rw [Option.bind_some, if_pos (by omega), wrap_succ (n := a.length) (by omega) (by omega), ih k (i + 1) _ (by omega) (by omega) (by rw [List.length_set]; exact hx) (by omega), drop57 a i (by omega), List.map_cons]
    have hi' : i < x.length := by omega
    rw [show (i : Int).toNat = i from rfl, List.take_add_one, List.take_set_of_le (Nat.le_refl i), List.getElem?_set_self hi', List.append_assoc]
    rfl
theorem toM_is (a : List S57) (hn : a.length ≤ 1048576) (k : Nat) (hk : a.length < k) : laws_toMeetS.f k a = some (a.map cvM) := by
  unfold laws_toMeetS.f
  rw [if_pos (by omega), if_pos (by omega)]
  have := toM_l0 a hn a.length k 0 (List.replicate a.length z60) (by omega) (by omega) (by simp) hk
  simpa using this
theorem eqM_l0 (a : List S60) (hn : a.length ≤ 1048576) (d : Nat) : ∀ (k i : Nat), a.length - i = d → d < k → laws_eqMeetS.l0 k a a (i : Int) = some true := by
  induction d with
  | zero =>
    intro k i hd hk
    obtain ⟨k, rfl⟩ : ∃ m, k = m + 1 := ⟨k - 1, by omega⟩
    rw [laws_eqMeetS.l0, if_neg (by omega)]
  | succ d ih =>
    intro k i hd hk
    obtain ⟨k, rfl⟩ : ∃ m, k = m + 1 := ⟨k - 1, by omega⟩
    rw [laws_eqMeetS.l0, if_pos (by omega), if_pos (by omega), if_pos (by omega)]
    unfold laws_eqMeet.f
    rw [if_pos rfl, if_pos rfl, Option.bind_some, if_pos rfl, wrap_succ (n := a.length) (by omega) (by omega)]
    exact ih k (i + 1) (by omega) (by omega)
theorem eqM_same (a : List S60) (hn : a.length ≤ 1048576) (k : Nat) (hk : a.length < k) : laws_eqMeetS.f k a a = some true := by
  unfold laws_eqMeetS.f
  rw [if_pos rfl]
  exact eqM_l0 a hn a.length k 0 (by omega) hk
theorem markM_l0 (d : Nat) : ∀ (k i : Nat) (x : List S60) (m : Int), x.length ≤ 1048576 → x.length - i = d → i ≤ x.length → d < k → 0 ≤ m → m + 2 * d ≤ 1000000000000 → ∃ y, laws_markMeetS.l0 k x m (i : Int) = some (m + 2 * d, y) := by
  induction d with
  | zero =>
    intro k i x m hn hd hi hk h0 h1
    obtain ⟨k, rfl⟩ : ∃ m, k = m + 1 := ⟨k - 1, by omega⟩
    refine ⟨x, ?_⟩
    rw [laws_markMeetS.l0, if_neg (by omega)]
    simp
  | succ d ih =>
    intro k i x m hn hd hi hk h0 h1
    obtain ⟨k, rfl⟩ : ∃ m, k = m + 1 := ⟨k - 1, by omega⟩
    rw [laws_markMeetS.l0, if_pos (by omega), if_pos (by omega), Option.bind_some, wrap_succ (n := x.length) (by omega) (by omega), wrap_in (x := m + 1) (by omega) (by omega), wrap_in (x := m + 1 + 1) (by omega) (by omega)]
    have h5 : ∀ Z : List S60, Z.length = x.length → ∃ y, laws_markMeetS.l0 k Z (m + 1 + 1) ((i + 1 : Nat) : Int) = some (m + 2 * ((d + 1 : Nat) : Int), y) := by
      intro Z hZ
      obtain ⟨y, e⟩ := ih k (i + 1) Z (m + 1 + 1) (by omega) (by omega) (by omega) (by omega) (by omega) (by omega)
      refine ⟨y, ?_⟩
      rw [e]
      congr 2
      omega
    exact h5 _ (by simp only [List.length_set])
theorem markM_is (x : List S60) (hn : x.length ≤ 1048576) (k : Nat) (hk : x.length < k) : ∃ r y, 0 ≤ r ∧ laws_markMeetS.f k x 1 = some (r, y) := by
  unfold laws_markMeetS.f
  obtain ⟨y, e⟩ := markM_l0 x.length k 0 x 1 hn (by omega) (by omega) hk (by omega) (by omega)
  exact ⟨_, y, by omega, e⟩

theorem FnExactPlaySpray : laws_FnExactPlaySpray.Stmt := by
  intro a b c d l wa _ _ _ ⟨hn, _⟩
  have hn' : l.length ≤ 9223372036854775807 := Nat.le_trans hn (by decide)
  refine ⟨2097400, ?_⟩
  unfold laws_FnExactPlaySpray.f laws_szMeetS.f
  rw [wrap_in (by omega) (by omega)]
  by_cases c1 : 1048576 - (l.length : Int) < 0
  · rw [if_pos c1, Option.bind_some, if_pos (by decide)]
  · have hl : (l.map cvM).length ≤ 1048576 := by rw [List.length_map]; omega
    obtain ⟨R, hR, e⟩ := play_is a b c d wa (l.map cvM) hl
    have T : ∀ k, 1048700 ≤ k → laws_toMeetS.f k l = some (l.map cvM) := fun k hk => toM_is l (by omega) k (by omega)
    have E : ∀ k, 1048700 ≤ k → laws_eqSpray.f k R.1 R.2.1 R.2.2.1 R.1 R.2.1 R.2.2.1 = some true := fun k hk => eqSpray_same _ _ _ (by omega) k (by omega)
    have ne : (R.2.2.2.2 != R.2.2.2.2) = false := by simp
    obtain ⟨mr, my, m0, me⟩ := markM_is (l.map cvM) hl 2097399 (by omega)
    rw [if_neg c1, Option.bind_some, if_neg c1, T _ (by omega), Option.bind_some, (e _ (by omega)).1, Option.bind_some, Option.bind_some, (e _ (by omega)).2, Option.bind_some, E _ (by omega), Option.bind_some, if_pos rfl, if_pos rfl, ne, laws_FnExactPlaySpray.j0, if_neg Bool.false_ne_true, T _ (by omega), Option.bind_some, eqM_same _ hl _ (by omega), Option.bind_some, if_pos rfl, me, Option.bind_some]
    dsimp only
    rw [if_neg (by omega), E _ (by omega), Option.bind_some, if_pos rfl, if_pos rfl, ne, laws_FnExactPlaySpray.j1, if_neg Bool.false_ne_true]
    unfold laws_markSpray.f laws_heldSpray.f
    rw [markIntS_is R.1 1 _ (by omega) (by omega) (by omega) (by omega), Option.bind_some, Option.bind_some]
    dsimp only
    rw [heldIntS_is R.1.length 1 _ (by omega) (by omega) (by omega) (by omega), Option.bind_some, if_neg (by omega), Option.bind_some, if_neg (by omega), if_pos rfl, T _ (by omega), Option.bind_some, (e _ (by omega)).2, Option.bind_some, E _ (by omega), Option.bind_some, if_pos rfl, if_pos rfl, ne, laws_FnExactPlaySpray.j2, if_neg Bool.false_ne_true]
    unfold laws_heldSpray.f
    rw [heldIntS_is R.1.length 1 _ (by omega) (by omega) (by omega) (by omega), Option.bind_some, if_neg (by omega), Option.bind_some, if_neg (by omega), if_pos rfl]

end Go.Proofs.Ytnphabcbnpenjaa.Pure
