/- The program's TokensIn returns what the reference's returns, for all rows of tokens. -/
import Derived.Test.YtpnfmbdiffjinaaXFnExactTokensInx3
set_option linter.unusedVariables false
set_option linter.unusedSimpArgs false
namespace Go.Proofs.Ytpnfmbdiffjinaa.Pure
open Go.RowKit Go.Proofs.Ytpnfmbdiffjinaa.XFnExactTokensIn Go.Proofs.YtpnfmbdiffjinaaW.PrintWords Go.Proofs.YtpnfmbdiffjinaaW.PrintLast Go.Proofs.YtpnfmbdiffjinaaW.PrintMore

/-- What is to be shown of FnExactTokensIn, in numbers and lists alone. -/
def laws_FnExactTokensIn.Stmt : Prop := ∀ (l0_0 : List Int) (a0_1 : Int) (a0_2 : Bool), ((l0_0.length ≤ maxLen ∧ ∀ x ∈ l0_0, (Lit.int .i64 x).wf = true) ∧ ((Lit.int .i64 a0_1).wf = true) ∧ True) → ∃ k, laws_FnExactTokensIn.f k l0_0 a0_1 a0_2 = some true

theorem wrap_in {x : Int} (h0 : -9223372036854775808 ≤ x) (h1 : x ≤ 9223372036854775807) : wrap64 x = x := by
  unfold wrap64
  omega
theorem wrap_succ {i n : Nat} (h : i < n) (hn : n ≤ 9223372036854775807) : wrap64 ((i : Int) + 1) = ((i + 1 : Nat) : Int) := by
  rw [wrap_in (by omega) (by omega)]
  omega

theorem eqIntS_l0 (a : List Int) (hn : a.length ≤ 9223372036854775807) (d : Nat) : ∀ (k i : Nat), a.length - i = d → d < k → laws_eqIntS.l0 k a a (i : Int) = some true := by
  induction d with
  | zero =>
    intro k i hd hk
    obtain ⟨k, rfl⟩ : ∃ m, k = m + 1 := ⟨k - 1, by omega⟩
    simp only [laws_eqIntS.l0]
    rw [if_neg (by omega)]
  | succ d ih =>
    intro k i hd hk
    obtain ⟨k, rfl⟩ : ∃ m, k = m + 1 := ⟨k - 1, by omega⟩
    simp only [laws_eqIntS.l0]
    rw [if_pos (by omega), if_pos (by omega), if_pos (by omega), if_pos trivial, wrap_succ (n := a.length) (by omega) hn]
    exact ih k (i + 1) (by omega) (by omega)
theorem eqIntS_same (a : List Int) (hn : a.length ≤ 9223372036854775807) (k : Nat) (hk : a.length < k) : laws_eqIntS.f k a a = some true := by
  unfold laws_eqIntS.f
  rw [if_pos rfl]
  exact eqIntS_l0 a hn a.length k 0 (by omega) hk

theorem toIntS_l0 (a : List Int) (hn : a.length ≤ 9223372036854775807) (d : Nat) : ∀ (k i : Nat) (x : List Int), a.length - i = d → i ≤ a.length → x.length = a.length → d < k → laws_toIntS.l0 k a x (i : Int) = some (x.take i ++ a.drop i) := by
  induction d with
  | zero =>
    intro k i x hd hi hx hk
    obtain ⟨k, rfl⟩ : ∃ m, k = m + 1 := ⟨k - 1, by omega⟩
    simp only [laws_toIntS.l0]
    rw [if_neg (by omega), List.take_of_length_le (by omega), List.drop_of_length_le (by omega), List.append_nil]
  | succ d ih =>
    intro k i x hd hi hx hk
    obtain ⟨k, rfl⟩ : ∃ m, k = m + 1 := ⟨k - 1, by omega⟩
    simp only [laws_toIntS.l0]
    rw [if_pos (by omega), if_pos (by omega), if_pos (by omega), wrap_succ (n := a.length) (by omega) hn, ih k (i + 1) _ (by omega) (by omega) (by rw [List.length_set]; exact hx) (by omega)]
    have hi' : i < x.length := by omega
    have hia : i < a.length := by omega
    have e1 : (x.set (i : Int).toNat (rd a (i : Int))).take (i + 1) = x.take i ++ [rd a (i : Int)] := by
      rw [show (i : Int).toNat = i from rfl, List.take_add_one, List.take_set_of_le (Nat.le_refl i), List.getElem?_set_self hi']
      rfl
    have e2 : a.drop i = rd a (i : Int) :: a.drop (i + 1) := by
      rw [List.drop_eq_getElem_cons hia]
      unfold rd
      simp [List.getD_eq_getElem?_getD, List.getElem?_eq_getElem hia]
    rw [e1, e2]
    simp
theorem toIntS_is (a : List Int) (hn : a.length ≤ 35184372088832) (k : Nat) (hk : a.length < k) : laws_toIntS.f k a = some a := by
  unfold laws_toIntS.f
  rw [if_pos (by omega), if_pos (by simpa using hn)]
  have := toIntS_l0 a (by omega) a.length k 0 (List.replicate a.length 0) (by omega) (by omega) (by simp) hk
  simpa using this

theorem dropInt (l : List Int) (i : Nat) (h : i < l.length) : l.drop i = rd l (i : Int) :: l.drop (i + 1) := by
  rw [List.drop_eq_getElem_cons h]
  unfold rd
  simp [List.getD_eq_getElem?_getD, List.getElem?_eq_getElem h]
theorem szInt_is (l : List Int) (m : Int) (h : l.length ≤ maxLen) (hm : 0 ≤ m) (hm1 : m ≤ 1048576) : ∃ r : Int, laws_szIntS.f l m = some r ∧ (r < 0 ∨ ((l.length : Int) ≤ m ∧ r = m - l.length)) := by
  have h0 : l.length ≤ 9223372036854775807 := Nat.le_trans h (by decide)
  unfold laws_szIntS.f
  rw [wrap_in (by omega) (by omega)]
  by_cases c : m - (l.length : Int) < 0
  · rw [if_pos c]
    exact ⟨_, rfl, Or.inl (by omega)⟩
  · rw [if_neg c]
    exact ⟨_, rfl, Or.inr ⟨by omega, rfl⟩⟩
theorem sin_is (a b c : Int) : spec_l1In.f a b c = some (decide (b ≤ a ∧ a ≤ c)) := by
  unfold spec_l1In.f
  by_cases h : a ≥ b
  · have h' : b ≤ a := h
    simp [h']
  · have h' : ¬ b ≤ a := h
    simp [h']
theorem iin_is (a b c : Int) : impl_within.f a b c = some (decide (b ≤ a ∧ a ≤ c)) := by
  unfold impl_within.f
  by_cases h : b ≤ a <;> simp [h]
/-- What the rows' numbers add up to, as the program adds. -/
def total (m : Int) (l : List Int) : Int := l.foldl (fun a x => wrap64 (a + x)) m
theorem szSpray_is (l : List Int) (b : Int) (c : Bool) (h : l.length ≤ maxLen) : ∃ r : Int, laws_szSpray.f l b c 1048576 = some r ∧ (r < 0 ∨ l.length ≤ 1048576) := by
  obtain ⟨r, e, hr⟩ := szInt_is l 1048576 h (by omega) (by omega)
  unfold laws_szSpray.f
  rw [e]
  simp only [Option.bind_some]
  by_cases c : r < 0
  · rw [if_pos c]
    exact ⟨_, rfl, Or.inl (by omega)⟩
  · rw [if_neg c]
    exact ⟨_, rfl, by rcases hr with h | h; exact Or.inl h; exact Or.inr (by omega)⟩
theorem toSpray_is (l : List Int) (b : Int) (c : Bool) (h : l.length ≤ 1048576) (k : Nat) (hk : 1048576 < k) : laws_toSpray.f k l b c = some (l, b, c) := by
  unfold laws_toSpray.f
  rw [toIntS_is l (by omega) k (by omega)]
  rfl
theorem eqSpray_same (l : List Int) (b : Int) (c : Bool) (h : l.length ≤ 1048576) (k : Nat) (hk : 1048576 < k) : laws_eqSpray.f k l b c l b c = some true := by
  unfold laws_eqSpray.f
  rw [eqIntS_same l (by omega) k (by omega)]
  simp
theorem tokens_l0 (x : List Int) (hn : x.length ≤ 1048576) (d : Nat) : ∀ (k i : Nat) (m : Int), x.length - i = d → i ≤ x.length → d < k → impl_Spray_tokens.l0 k m x (x.length : Int) (i : Int) = some (total m (x.drop i)) := by
  induction d with
  | zero =>
    intro k i m hd hi hk
    obtain ⟨k, rfl⟩ : ∃ m, k = m + 1 := ⟨k - 1, by omega⟩
    simp only [impl_Spray_tokens.l0]
    rw [if_neg (by omega), List.drop_of_length_le (by omega)]
    rfl
  | succ d ih =>
    intro k i m hd hi hk
    obtain ⟨k, rfl⟩ : ∃ m, k = m + 1 := ⟨k - 1, by omega⟩
    simp only [impl_Spray_tokens.l0]
    rw [if_pos (by omega), if_pos (by omega), if_pos (by omega), wrap_succ (n := x.length) (by omega) (by omega), ih k (i + 1) _ (by omega) (by omega) (by omega), dropInt x i (by omega)]
    rfl
theorem tokens_is (x : List Int) (b : Int) (c : Bool) (hn : x.length ≤ 1048576) (k : Nat) (hk : 1048576 < k) : impl_Spray_tokens.f k x b c = some (total 0 x) := by
  unfold impl_Spray_tokens.f
  rw [show (0 : Int) = ((0 : Nat) : Int) from rfl, tokens_l0 x hn x.length k 0 _ (by omega) (by omega) (by omega), List.drop_zero]
theorem sspray_l0 (x : List Int) (hn : x.length ≤ 1048576) (d : Nat) : ∀ (k i : Nat) (m : Int), x.length - i = d → i ≤ x.length → d < k →
    spec_GoodSpray.l0 k m x (x.length : Int) (i : Int) = some (decide ((∀ y ∈ x.drop i, 0 ≤ y ∧ y ≤ 64) ∧ 1 ≤ total m (x.drop i) ∧ total m (x.drop i) ≤ 64)) := by
  induction d with
  | zero =>
    intro k i m hd hi hk
    obtain ⟨k, rfl⟩ : ∃ m, k = m + 1 := ⟨k - 1, by omega⟩
    simp only [spec_GoodSpray.l0]
    rw [if_neg (by omega), List.drop_of_length_le (by omega), sin_is]
    simp only [Option.bind_some]
    exact congrArg some (decide_eq_decide.mpr ⟨fun h => ⟨by simp, h⟩, fun h => h.2⟩)
  | succ d ih =>
    intro k i m hd hi hk
    obtain ⟨k, rfl⟩ : ∃ m, k = m + 1 := ⟨k - 1, by omega⟩
    simp only [spec_GoodSpray.l0]
    rw [if_pos (by omega), if_pos (by omega), if_pos (by omega), sin_is, wrap_succ (n := x.length) (by omega) (by omega), ih k (i + 1) _ (by omega) (by omega) (by omega), dropInt x i (by omega)]
    simp only [Option.bind_some, decide_eq_true_eq]
    by_cases c : 0 ≤ rd x (i : Int) ∧ rd x (i : Int) ≤ 64
    · rw [if_pos c]
      exact congrArg some (decide_eq_decide.mpr ⟨fun h => ⟨List.forall_mem_cons.mpr ⟨c, h.1⟩, h.2⟩, fun h => ⟨(List.forall_mem_cons.mp h.1).2, h.2⟩⟩)
    · rw [if_neg c]
      exact congrArg some (decide_eq_false fun h => c (h.1 _ List.mem_cons_self)).symm
theorem sspray_is (x : List Int) (hn : x.length ≤ 1048576) (k : Nat) (hk : 1048576 < k) : spec_GoodSpray.l0 k 0 x (x.length : Int) 0 = some (decide ((∀ y ∈ x, 0 ≤ y ∧ y ≤ 64) ∧ 1 ≤ total 0 x ∧ total 0 x ≤ 64)) := by
  have := sspray_l0 x hn x.length k 0 0 (by omega) (by omega) (by omega)
  rw [List.drop_zero] at this
  exact this
theorem ilit_is (a : Int) : impl_GoodSpray_lit1.f a = some (!decide (0 ≤ a ∧ a ≤ 64)) := by
  unfold impl_GoodSpray_lit1.f
  rw [iin_is]
  rfl
theorem idx_l0 (x : List Int) (hn : x.length ≤ 1048576) (d : Nat) : ∀ (i : Nat), x.length - i = d → i ≤ x.length →
    ∃ r : Int, (r ≥ 0 ↔ ¬ ∀ y ∈ x.drop i, 0 ≤ y ∧ y ≤ 64) ∧ ∀ k, d < k → slices_IndexFunc_int_int_impl_GoodSpray_lit1.l0 k x (x.length : Int) (i : Int) = some r := by
  induction d with
  | zero =>
    intro i hd hi
    refine ⟨-1, ?_, fun k hk => ?_⟩
    · rw [List.drop_of_length_le (by omega)]
      simp
    · obtain ⟨k, rfl⟩ : ∃ m, k = m + 1 := ⟨k - 1, by omega⟩
      simp only [slices_IndexFunc_int_int_impl_GoodSpray_lit1.l0]
      rw [if_neg (by omega)]
  | succ d ih =>
    intro i hd hi
    by_cases c : 0 ≤ rd x (i : Int) ∧ rd x (i : Int) ≤ 64
    · obtain ⟨r, hr, h2⟩ := ih (i + 1) (by omega) (by omega)
      refine ⟨r, ?_, fun k hk => ?_⟩
      · rw [hr, dropInt x i (by omega)]
        simp only [List.forall_mem_cons, c, true_and, and_self]
      · obtain ⟨k, rfl⟩ : ∃ m, k = m + 1 := ⟨k - 1, by omega⟩
        simp only [slices_IndexFunc_int_int_impl_GoodSpray_lit1.l0]
        rw [if_pos (by omega), if_pos (by omega), if_pos (by omega), ilit_is, wrap_succ (n := x.length) (by omega) (by omega)]
        simp only [Option.bind_some, c, and_self, decide_true, Bool.not_true, Bool.false_eq_true, if_false]
        exact h2 k (by omega)
    · refine ⟨(i : Int), ?_, fun k hk => ?_⟩
      · rw [dropInt x i (by omega)]
        exact ⟨fun _ h => c (h _ List.mem_cons_self), fun _ => by omega⟩
      · obtain ⟨k, rfl⟩ : ∃ m, k = m + 1 := ⟨k - 1, by omega⟩
        simp only [slices_IndexFunc_int_int_impl_GoodSpray_lit1.l0]
        rw [if_pos (by omega), if_pos (by omega), if_pos (by omega), ilit_is, decide_eq_false c]
        simp only [Option.bind_some, Bool.not_false, if_true]
theorem cont_is (x : List Int) (hn : x.length ≤ 1048576) (k : Nat) (hk : 1048576 < k) : slices_ContainsFunc_int_int_impl_GoodSpray_lit1.f k x = some (decide (¬ ∀ y ∈ x, 0 ≤ y ∧ y ≤ 64)) := by
  unfold slices_ContainsFunc_int_int_impl_GoodSpray_lit1.f slices_IndexFunc_int_int_impl_GoodSpray_lit1.f
  obtain ⟨r, hr, e⟩ := idx_l0 x hn x.length 0 (by omega) (by omega)
  rw [show (0 : Int) = ((0 : Nat) : Int) from rfl, e k (by omega)]
  simp only [Option.bind_some]
  rw [List.drop_zero] at hr
  congr 1
  rw [Bool.eq_iff_iff, decide_eq_true_eq, decide_eq_true_eq]
  exact hr
/-- Both answer alike on every row. -/
theorem spray_both (x : List Int) (b : Int) (c : Bool) (hn : x.length ≤ 1048576) (k : Nat) (hk : 1048577 < k) : ∃ r, spec_GoodSpray.f k x b c = some r ∧ impl_GoodSpray.f k x b c = some r := by
  unfold spec_GoodSpray.f impl_GoodSpray.f impl_isWide.f
  obtain ⟨k, rfl⟩ : ∃ m, k = m + 1 := ⟨k - 1, by omega⟩
  rw [sin_is, iin_is, iin_is, wrap_in (by omega) (by omega)]
  simp only [Option.bind_some, decide_eq_true_eq, spec_GoodSpray.j0, impl_GoodSpray.j0, if_true]
  by_cases c1 : 2 ≤ (x.length : Int) ∧ (x.length : Int) ≤ 8
  · rw [if_pos c1, if_pos c1]
    by_cases c2 : 0 ≤ b ∧ b ≤ (x.length : Int) - 1
    · rw [if_pos c2]
      simp only [if_neg (show ¬ b < 0 by omega), if_neg (show ¬ b ≥ (x.length : Int) by omega), if_pos (show 0 ≤ b by omega), if_pos (show b < (x.length : Int) by omega)]
      by_cases c3 : (rd x b != 0) = true
      · rw [if_pos c3, if_pos c3]
        exact ⟨_, rfl, rfl⟩
      · rw [if_neg c3, if_neg c3, cont_is x hn k (by omega), tokens_is x b c hn k (by omega), sspray_is x hn k (by omega)]
        simp only [Option.bind_some, decide_eq_true_eq]
        refine ⟨_, rfl, ?_⟩
        by_cases c4 : ∀ y ∈ x, 0 ≤ y ∧ y ≤ 64
        · rw [if_neg (fun h => h c4), iin_is]
          exact congrArg some (decide_eq_decide.mpr ⟨fun h => ⟨c4, h⟩, fun h => h.2⟩)
        · rw [if_pos c4]
          exact congrArg some (decide_eq_false fun h => c4 h.1).symm
    · rw [if_neg c2]
      by_cases c3 : b < 0
      · rw [if_pos c3]
        exact ⟨_, rfl, rfl⟩
      · rw [if_neg c3, if_pos (by omega)]
        exact ⟨_, rfl, rfl⟩
  · rw [if_neg c1, if_neg c1]
    exact ⟨_, rfl, rfl⟩

theorem stok_l0 (x : List Int) (hn : x.length ≤ 1048576) (d : Nat) : ∀ (k i : Nat) (m : Int), x.length - i = d → i ≤ x.length → d < k → spec_TokensIn.l0 k m x (x.length : Int) (i : Int) = some (total m (x.drop i), true) := by
  induction d with
  | zero =>
    intro k i m hd hi hk
    obtain ⟨k, rfl⟩ : ∃ m, k = m + 1 := ⟨k - 1, by omega⟩
    simp only [spec_TokensIn.l0]
    rw [if_neg (by omega), List.drop_of_length_le (by omega)]
    rfl
  | succ d ih =>
    intro k i m hd hi hk
    obtain ⟨k, rfl⟩ : ∃ m, k = m + 1 := ⟨k - 1, by omega⟩
    simp only [spec_TokensIn.l0]
    rw [if_pos (by omega), if_pos (by omega), if_pos (by omega), wrap_succ (n := x.length) (by omega) (by omega), ih k (i + 1) _ (by omega) (by omega) (by omega), dropInt x i (by omega)]
    rfl
theorem FnExactTokensIn : laws_FnExactTokensIn.Stmt := by
  intro l b c ⟨⟨hn, _⟩, _, _⟩
  refine ⟨2097200, ?_⟩
  unfold laws_FnExactTokensIn.f
  obtain ⟨r, e, hr⟩ := szSpray_is l b c hn
  rw [e]
  simp only [Option.bind_some]
  by_cases c0 : r < 0
  · rw [if_pos c0]
  · rw [if_neg c0]
    have h1 : l.length ≤ 1048576 := by omega
    rw [toSpray_is l b c h1 _ (by omega)]
    simp only [Option.bind_some]
    unfold spec_TokensIn.f impl_TokensIn.f
    obtain ⟨r, es, ei⟩ := spray_both l b c h1 2097200 (by omega)
    rw [es, ei, tokens_is l b c h1 _ (by omega), show (0 : Int) = ((0 : Nat) : Int) from rfl, stok_l0 l h1 l.length _ 0 _ (by omega) (by omega) (by omega), List.drop_zero]
    cases r <;> simp only [Option.bind_some, if_true, Bool.false_eq_true, if_false, bne_self_eq_false, laws_FnExactTokensIn.j0] <;> rw [toSpray_is l b c h1 _ (by omega)] <;> simp only [Option.bind_some] <;> rw [eqSpray_same l b c h1 _ (by omega)] <;> simp

end Go.Proofs.Ytpnfmbdiffjinaa.Pure
