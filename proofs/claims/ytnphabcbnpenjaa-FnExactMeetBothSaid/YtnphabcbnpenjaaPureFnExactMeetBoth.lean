/- The program's MeetBoth returns what the reference's returns, for all rows of tokens and all who meet; it writes into none and its list is new memory. -/
import Derived.Test.YtnphabcbnpenjaaXFnExactMeetBothx7
set_option linter.unusedVariables false
set_option linter.unusedSimpArgs false
namespace Go.Proofs.Ytnphabcbnpenjaa.Pure
open Go.RowKit Go.Proofs.Ytnphabcbnpenjaa.XFnExactMeetBoth Go.Proofs.YtnphabcbnpenjaaW.PrintWords Go.Proofs.YtnphabcbnpenjaaW.PrintLast Go.Proofs.YtnphabcbnpenjaaW.PrintMore

/-- What is to be shown of FnExactMeetBoth, in numbers and lists alone. -/
def laws_FnExactMeetBoth.Stmt : Prop := ∀ (l0_0 : List Int) (a0_1 : Int) (a0_2 : Bool) (a1_0 : Int) (a1_1 : Int), ((l0_0.length ≤ maxLen ∧ ∀ x ∈ l0_0, (Lit.int .i64 x).wf = true) ∧ ((Lit.int .i64 a0_1).wf = true) ∧ True) → (((Lit.int .i64 a1_0).wf = true) ∧ ((Lit.int .i64 a1_1).wf = true)) → ∃ k, laws_FnExactMeetBoth.f k l0_0 a0_1 a0_2 a1_0 a1_1 = some true

theorem wrap_in {x : Int} (h0 : -9223372036854775808 ≤ x) (h1 : x ≤ 9223372036854775807) : wrap64 x = x := by
  unfold wrap64
  omega
theorem wrap_succ {i n : Nat} (h : i < n) (hn : n ≤ 9223372036854775807) : wrap64 ((i : Int) + 1) = ((i + 1 : Nat) : Int) := by
  rw [wrap_in (by omega) (by omega)]
  omega

theorem eqIntS_l0 (a : List Int) (hn : a.length ≤ 9223372036854775807) (d : Nat) : ∀ (k i : Nat), a.length - i = d → d < k → laws_eqIntS.l0 k a a (i : Int) = some true := by
  induction d with
  | zero =>
    intro k i hd hk
    obtain ⟨k, rfl⟩ : ∃ m, k = m + 1 := ⟨k - 1, by omega⟩
    simp only [laws_eqIntS.l0]
    rw [if_neg (by omega)]
  | succ d ih =>
    intro k i hd hk
    obtain ⟨k, rfl⟩ : ∃ m, k = m + 1 := ⟨k - 1, by omega⟩
    simp only [laws_eqIntS.l0]
    rw [if_pos (by omega), if_pos (by omega), if_pos (by omega), if_pos trivial, wrap_succ (n := a.length) (by omega) hn]
    exact ih k (i + 1) (by omega) (by omega)
theorem eqIntS_same (a : List Int) (hn : a.length ≤ 9223372036854775807) (k : Nat) (hk : a.length < k) : laws_eqIntS.f k a a = some true := by
  unfold laws_eqIntS.f
  rw [if_pos rfl]
  exact eqIntS_l0 a hn a.length k 0 (by omega) hk

theorem toIntS_l0 (a : List Int) (hn : a.length ≤ 9223372036854775807) (d : Nat) : ∀ (k i : Nat) (x : List Int), a.length - i = d → i ≤ a.length → x.length = a.length → d < k → laws_toIntS.l0 k a x (i : Int) = some (x.take i ++ a.drop i) := by
  induction d with
  | zero =>
    intro k i x hd hi hx hk
    obtain ⟨k, rfl⟩ : ∃ m, k = m + 1 := ⟨k - 1, by omega⟩
    simp only [laws_toIntS.l0]
    rw [if_neg (by omega), List.take_of_length_le (by omega), List.drop_of_length_le (by omega), List.append_nil]
  | succ d ih =>
    intro k i x hd hi hx hk
    obtain ⟨k, rfl⟩ : ∃ m, k = m + 1 := ⟨k - 1, by omega⟩
    simp only [laws_toIntS.l0]
    rw [if_pos (by omega), if_pos (by omega), if_pos (by omega), wrap_succ (n := a.length) (by omega) hn, ih k (i + 1) _ (by omega) (by omega) (by rw [List.length_set]; exact hx) (by omega)]
    have hi' : i < x.length := by omega
    have hia : i < a.length := by omega
    have e1 : (x.set (i : Int).toNat (rd a (i : Int))).take (i + 1) = x.take i ++ [rd a (i : Int)] := by
      rw [show (i : Int).toNat = i from rfl, List.take_add_one, List.take_set_of_le (Nat.le_refl i), List.getElem?_set_self hi']
      rfl
    have e2 : a.drop i = rd a (i : Int) :: a.drop (i + 1) := by
      rw [List.drop_eq_getElem_cons hia]
      unfold rd
      simp [List.getD_eq_getElem?_getD, List.getElem?_eq_getElem hia]
    rw [e1, e2]
    simp
theorem toIntS_is (a : List Int) (hn : a.length ≤ 35184372088832) (k : Nat) (hk : a.length < k) : laws_toIntS.f k a = some a := by
  unfold laws_toIntS.f
  rw [if_pos (by omega), if_pos (by simpa using hn)]
  have := toIntS_l0 a (by omega) a.length k 0 (List.replicate a.length 0) (by omega) (by omega) (by simp) hk
  simpa using this

theorem markIntS_l0 (d : Nat) : ∀ (k i : Nat) (x : List Int) (m : Int), x.length ≤ 9223372036854775807 → x.length - i = d → i ≤ x.length → d < k → 0 ≤ m → m + d ≤ 9223372036854775807 →
    laws_markIntS.l0 k x m (i : Int) = some (m + d, x.take i ++ (List.range d).map (fun j : Nat => m + j)) := by
  induction d with
  | zero =>
    intro k i x m hn hd hi hk h0 h1
    obtain ⟨k, rfl⟩ : ∃ m, k = m + 1 := ⟨k - 1, by omega⟩
    simp only [laws_markIntS.l0]
    rw [if_neg (by omega), List.take_of_length_le (by omega)]
    simp
  | succ d ih =>
    intro k i x m hn hd hi hk h0 h1
    obtain ⟨k, rfl⟩ : ∃ m, k = m + 1 := ⟨k - 1, by omega⟩
    simp only [laws_markIntS.l0]
    rw [if_pos (by omega), if_pos (by omega), wrap_succ (n := x.length) (by omega) hn, wrap_in (by omega) (by omega),
      ih k (i + 1) (x.set (i : Int).toNat m) (m + 1) (by simpa using hn) (by rw [List.length_set]; omega) (by rw [List.length_set]; omega) (by omega) (by omega) (by omega)]
    have hi' : i < x.length := by omega
    have e1 : (x.set i m).take (i + 1) = x.take i ++ [m] := by
      rw [List.take_add_one, List.take_set_of_le (Nat.le_refl i), List.getElem?_set_self hi']
      rfl
    rw [show (i : Int).toNat = i from rfl, e1, List.range_succ_eq_map, List.map_cons, List.map_map]
    simp only [List.append_assoc, List.cons_append, List.nil_append]
    congr 1
    refine Prod.ext (by simp; omega) ?_
    simp only [Function.comp_def]
    congr 1
    congr 1
    · simp
    · exact List.map_congr_left fun j _ => by simp; omega
theorem markIntS_is (x : List Int) (m : Int) (k : Nat) (hn : x.length ≤ 1000000000000) (hk : x.length < k) (h0 : 0 ≤ m) (h1 : m ≤ 1000000000000000) :
    laws_markIntS.f k x m = some (m + x.length, (List.range x.length).map (fun j : Nat => m + j)) := by
  unfold laws_markIntS.f
  have := markIntS_l0 x.length k 0 x m (by omega) (by omega) (by omega) hk h0 (by omega)
  simpa using this

theorem heldIntS_l0 (d : Nat) : ∀ (k i : Nat) (x : List Int) (m : Int), x.length ≤ 9223372036854775807 → x.length - i = d → i ≤ x.length → d < k → 0 ≤ m → m + d ≤ 9223372036854775807 →
    (∀ j : Nat, j < d → x.getD (i + j) 0 = m + j) → laws_heldIntS.l0 k x m (i : Int) = some (m + d) := by
  induction d with
  | zero =>
    intro k i x m hn hd hi hk h0 h1 hx
    obtain ⟨k, rfl⟩ : ∃ m, k = m + 1 := ⟨k - 1, by omega⟩
    simp only [laws_heldIntS.l0]
    rw [if_neg (by omega)]
    simp
  | succ d ih =>
    intro k i x m hn hd hi hk h0 h1 hx
    obtain ⟨k, rfl⟩ : ∃ m, k = m + 1 := ⟨k - 1, by omega⟩
    simp only [laws_heldIntS.l0]
    have e := hx 0 (by omega)
    rw [if_pos (by omega), if_pos (by omega), if_pos (by unfold rd; simpa using e), wrap_succ (n := x.length) (by omega) hn, wrap_in (by omega) (by omega),
      ih k (i + 1) x (m + 1) hn (by omega) (by omega) (by omega) (by omega) (by omega) (fun j hj => by have := hx (j + 1) (by omega); rw [show i + 1 + j = i + (j + 1) by omega, this]; omega)]
    congr 1
    omega
theorem heldIntS_is (n : Nat) (m : Int) (k : Nat) (hn : n ≤ 1000000000000) (hk : n < k) (h0 : 0 ≤ m) (h1 : m ≤ 1000000000000000) :
    laws_heldIntS.f k ((List.range n).map (fun j : Nat => m + j)) m = some (m + n) := by
  unfold laws_heldIntS.f
  have := heldIntS_l0 n k 0 ((List.range n).map (fun j : Nat => m + j)) m (by simp; omega) (by simp) (by simp) hk h0 (by omega) (fun j hj => by
    simp [List.getD_eq_getElem?_getD, List.getElem?_range hj])
  simpa using this

theorem dropInt (l : List Int) (i : Nat) (h : i < l.length) : l.drop i = rd l (i : Int) :: l.drop (i + 1) := by
  rw [List.drop_eq_getElem_cons h]
  unfold rd
  simp [List.getD_eq_getElem?_getD, List.getElem?_eq_getElem h]
theorem szInt_is (l : List Int) (m : Int) (h : l.length ≤ maxLen) (hm : 0 ≤ m) (hm1 : m ≤ 1048576) : ∃ r : Int, laws_szIntS.f l m = some r ∧ (r < 0 ∨ ((l.length : Int) ≤ m ∧ r = m - l.length)) := by
  have h0 : l.length ≤ 9223372036854775807 := Nat.le_trans h (by decide)
  unfold laws_szIntS.f
  rw [wrap_in (by omega) (by omega)]
  by_cases c : m - (l.length : Int) < 0
  · rw [if_pos c]
    exact ⟨_, rfl, Or.inl (by omega)⟩
  · rw [if_neg c]
    exact ⟨_, rfl, Or.inr ⟨by omega, rfl⟩⟩
theorem sin_is (a b c : Int) : spec_l1In.f a b c = some (decide (b ≤ a ∧ a ≤ c)) := by
  unfold spec_l1In.f
  by_cases h : a ≥ b
  · have h' : b ≤ a := h
    simp [h']
  · have h' : ¬ b ≤ a := h
    simp [h']
theorem iin_is (a b c : Int) : impl_within.f a b c = some (decide (b ≤ a ∧ a ≤ c)) := by
  unfold impl_within.f
  by_cases h : b ≤ a <;> simp [h]
/-- What the rows' numbers add up to, as the program adds. -/
def total (m : Int) (l : List Int) : Int := l.foldl (fun a x => wrap64 (a + x)) m
theorem szSpray_is (l : List Int) (b : Int) (c : Bool) (h : l.length ≤ maxLen) : ∃ r : Int, laws_szSpray.f l b c 1048576 = some r ∧ (r < 0 ∨ l.length ≤ 1048576) := by
  obtain ⟨r, e, hr⟩ := szInt_is l 1048576 h (by omega) (by omega)
  unfold laws_szSpray.f
  rw [e]
  simp only [Option.bind_some]
  by_cases c : r < 0
  · rw [if_pos c]
    exact ⟨_, rfl, Or.inl (by omega)⟩
  · rw [if_neg c]
    exact ⟨_, rfl, by rcases hr with h | h; exact Or.inl h; exact Or.inr (by omega)⟩
theorem toSpray_is (l : List Int) (b : Int) (c : Bool) (h : l.length ≤ 1048576) (k : Nat) (hk : 1048576 < k) : laws_toSpray.f k l b c = some (l, b, c) := by
  unfold laws_toSpray.f
  rw [toIntS_is l (by omega) k (by omega)]
  rfl
theorem eqSpray_same (l : List Int) (b : Int) (c : Bool) (h : l.length ≤ 1048576) (k : Nat) (hk : 1048576 < k) : laws_eqSpray.f k l b c l b c = some true := by
  unfold laws_eqSpray.f
  rw [eqIntS_same l (by omega) k (by omega)]
  simp
theorem tokens_l0 (x : List Int) (hn : x.length ≤ 1048576) (d : Nat) : ∀ (k i : Nat) (m : Int), x.length - i = d → i ≤ x.length → d < k → impl_Spray_tokens.l0 k m x (x.length : Int) (i : Int) = some (total m (x.drop i)) := by
  induction d with
  | zero =>
    intro k i m hd hi hk
    obtain ⟨k, rfl⟩ : ∃ m, k = m + 1 := ⟨k - 1, by omega⟩
    simp only [impl_Spray_tokens.l0]
    rw [if_neg (by omega), List.drop_of_length_le (by omega)]
    rfl
  | succ d ih =>
    intro k i m hd hi hk
    obtain ⟨k, rfl⟩ : ∃ m, k = m + 1 := ⟨k - 1, by omega⟩
    simp only [impl_Spray_tokens.l0]
    rw [if_pos (by omega), if_pos (by omega), if_pos (by omega), wrap_succ (n := x.length) (by omega) (by omega), ih k (i + 1) _ (by omega) (by omega) (by omega), dropInt x i (by omega)]
    rfl
theorem tokens_is (x : List Int) (b : Int) (c : Bool) (hn : x.length ≤ 1048576) (k : Nat) (hk : 1048576 < k) : impl_Spray_tokens.f k x b c = some (total 0 x) := by
  unfold impl_Spray_tokens.f
  rw [show (0 : Int) = ((0 : Nat) : Int) from rfl, tokens_l0 x hn x.length k 0 _ (by omega) (by omega) (by omega), List.drop_zero]
theorem sspray_l0 (x : List Int) (hn : x.length ≤ 1048576) (d : Nat) : ∀ (k i : Nat) (m : Int), x.length - i = d → i ≤ x.length → d < k →
    spec_GoodSpray.l0 k m x (x.length : Int) (i : Int) = some (decide ((∀ y ∈ x.drop i, 0 ≤ y ∧ y ≤ 64) ∧ 1 ≤ total m (x.drop i) ∧ total m (x.drop i) ≤ 64)) := by
  induction d with
  | zero =>
    intro k i m hd hi hk
    obtain ⟨k, rfl⟩ : ∃ m, k = m + 1 := ⟨k - 1, by omega⟩
    simp only [spec_GoodSpray.l0]
    rw [if_neg (by omega), List.drop_of_length_le (by omega), sin_is]
    simp only [Option.bind_some]
    exact congrArg some (decide_eq_decide.mpr ⟨fun h => ⟨by simp, h⟩, fun h => h.2⟩)
  | succ d ih =>
    intro k i m hd hi hk
    obtain ⟨k, rfl⟩ : ∃ m, k = m + 1 := ⟨k - 1, by omega⟩
    simp only [spec_GoodSpray.l0]
    rw [if_pos (by omega), if_pos (by omega), if_pos (by omega), sin_is, wrap_succ (n := x.length) (by omega) (by omega), ih k (i + 1) _ (by omega) (by omega) (by omega), dropInt x i (by omega)]
    simp only [Option.bind_some, decide_eq_true_eq]
    by_cases c : 0 ≤ rd x (i : Int) ∧ rd x (i : Int) ≤ 64
    · rw [if_pos c]
      exact congrArg some (decide_eq_decide.mpr ⟨fun h => ⟨List.forall_mem_cons.mpr ⟨c, h.1⟩, h.2⟩, fun h => ⟨(List.forall_mem_cons.mp h.1).2, h.2⟩⟩)
    · rw [if_neg c]
      exact congrArg some (decide_eq_false fun h => c (h.1 _ List.mem_cons_self)).symm
theorem sspray_is (x : List Int) (hn : x.length ≤ 1048576) (k : Nat) (hk : 1048576 < k) : spec_GoodSpray.l0 k 0 x (x.length : Int) 0 = some (decide ((∀ y ∈ x, 0 ≤ y ∧ y ≤ 64) ∧ 1 ≤ total 0 x ∧ total 0 x ≤ 64)) := by
  have := sspray_l0 x hn x.length k 0 0 (by omega) (by omega) (by omega)
  rw [List.drop_zero] at this
  exact this
theorem ilit_is (a : Int) : impl_GoodSpray_lit1.f a = some (!decide (0 ≤ a ∧ a ≤ 64)) := by
  unfold impl_GoodSpray_lit1.f
  rw [iin_is]
  rfl
theorem idx_l0 (x : List Int) (hn : x.length ≤ 1048576) (d : Nat) : ∀ (i : Nat), x.length - i = d → i ≤ x.length →
    ∃ r : Int, (r ≥ 0 ↔ ¬ ∀ y ∈ x.drop i, 0 ≤ y ∧ y ≤ 64) ∧ ∀ k, d < k → slices_IndexFunc_int_int_impl_GoodSpray_lit1.l0 k x (x.length : Int) (i : Int) = some r := by
  induction d with
  | zero =>
    intro i hd hi
    refine ⟨-1, ?_, fun k hk => ?_⟩
    · rw [List.drop_of_length_le (by omega)]
      simp
    · obtain ⟨k, rfl⟩ : ∃ m, k = m + 1 := ⟨k - 1, by omega⟩
      simp only [slices_IndexFunc_int_int_impl_GoodSpray_lit1.l0]
      rw [if_neg (by omega)]
  | succ d ih =>
    intro i hd hi
    by_cases c : 0 ≤ rd x (i : Int) ∧ rd x (i : Int) ≤ 64
    · obtain ⟨r, hr, h2⟩ := ih (i + 1) (by omega) (by omega)
      refine ⟨r, ?_, fun k hk => ?_⟩
      · rw [hr, dropInt x i (by omega)]
        simp only [List.forall_mem_cons, c, true_and, and_self]
      · obtain ⟨k, rfl⟩ : ∃ m, k = m + 1 := ⟨k - 1, by omega⟩
        simp only [slices_IndexFunc_int_int_impl_GoodSpray_lit1.l0]
        rw [if_pos (by omega), if_pos (by omega), if_pos (by omega), ilit_is, wrap_succ (n := x.length) (by omega) (by omega)]
        simp only [Option.bind_some, c, and_self, decide_true, Bool.not_true, Bool.false_eq_true, if_false]
        exact h2 k (by omega)
    · refine ⟨(i : Int), ?_, fun k hk => ?_⟩
      · rw [dropInt x i (by omega)]
        exact ⟨fun _ h => c (h _ List.mem_cons_self), fun _ => by omega⟩
      · obtain ⟨k, rfl⟩ : ∃ m, k = m + 1 := ⟨k - 1, by omega⟩
        simp only [slices_IndexFunc_int_int_impl_GoodSpray_lit1.l0]
        rw [if_pos (by omega), if_pos (by omega), if_pos (by omega), ilit_is, decide_eq_false c]
        simp only [Option.bind_some, Bool.not_false, if_true]
theorem cont_is (x : List Int) (hn : x.length ≤ 1048576) (k : Nat) (hk : 1048576 < k) : slices_ContainsFunc_int_int_impl_GoodSpray_lit1.f k x = some (decide (¬ ∀ y ∈ x, 0 ≤ y ∧ y ≤ 64)) := by
  unfold slices_ContainsFunc_int_int_impl_GoodSpray_lit1.f slices_IndexFunc_int_int_impl_GoodSpray_lit1.f
  obtain ⟨r, hr, e⟩ := idx_l0 x hn x.length 0 (by omega) (by omega)
  rw [show (0 : Int) = ((0 : Nat) : Int) from rfl, e k (by omega)]
  simp only [Option.bind_some]
  rw [List.drop_zero] at hr
  congr 1
  rw [Bool.eq_iff_iff, decide_eq_true_eq, decide_eq_true_eq]
  exact hr
/-- Both answer alike on every row. -/
theorem spray_both (x : List Int) (b : Int) (c : Bool) (hn : x.length ≤ 1048576) (k : Nat) (hk : 1048577 < k) : ∃ r, spec_GoodSpray.f k x b c = some r ∧ impl_GoodSpray.f k x b c = some r := by
  unfold spec_GoodSpray.f impl_GoodSpray.f impl_isWide.f
  obtain ⟨k, rfl⟩ : ∃ m, k = m + 1 := ⟨k - 1, by omega⟩
  rw [sin_is, iin_is, iin_is, wrap_in (by omega) (by omega)]
  simp only [Option.bind_some, decide_eq_true_eq, spec_GoodSpray.j0, impl_GoodSpray.j0, if_true]
  by_cases c1 : 2 ≤ (x.length : Int) ∧ (x.length : Int) ≤ 8
  · rw [if_pos c1, if_pos c1]
    by_cases c2 : 0 ≤ b ∧ b ≤ (x.length : Int) - 1
    · rw [if_pos c2]
      simp only [if_neg (show ¬ b < 0 by omega), if_neg (show ¬ b ≥ (x.length : Int) by omega), if_pos (show 0 ≤ b by omega), if_pos (show b < (x.length : Int) by omega)]
      by_cases c3 : (rd x b != 0) = true
      · rw [if_pos c3, if_pos c3]
        exact ⟨_, rfl, rfl⟩
      · rw [if_neg c3, if_neg c3, cont_is x hn k (by omega), tokens_is x b c hn k (by omega), sspray_is x hn k (by omega)]
        simp only [Option.bind_some, decide_eq_true_eq]
        refine ⟨_, rfl, ?_⟩
        by_cases c4 : ∀ y ∈ x, 0 ≤ y ∧ y ≤ 64
        · rw [if_neg (fun h => h c4), iin_is]
          exact congrArg some (decide_eq_decide.mpr ⟨fun h => ⟨c4, h⟩, fun h => h.2⟩)
        · rw [if_pos c4]
          exact congrArg some (decide_eq_false fun h => c4 h.1).symm
    · rw [if_neg c2]
      by_cases c3 : b < 0
      · rw [if_pos c3]
        exact ⟨_, rfl, rfl⟩
      · rw [if_neg c3, if_pos (by omega)]
        exact ⟨_, rfl, rfl⟩
  · rw [if_neg c1, if_neg c1]
    exact ⟨_, rfl, rfl⟩

theorem sgood_all (x : List Int) (b : Int) (c : Bool) (hn : x.length ≤ 1048576) (k : Nat) (hk : 1048577 < k) (h : spec_GoodSpray.f k x b c = some true) : (2 ≤ x.length ∧ x.length ≤ 8) ∧ (0 ≤ b ∧ b < (x.length : Int)) ∧ rd x b = 0 ∧ (∀ j : Int, 0 ≤ j → j < (x.length : Int) → 0 ≤ rd x j ∧ rd x j ≤ 64) ∧ (∀ y ∈ x, 0 ≤ y ∧ y ≤ 64) ∧ 1 ≤ total 0 x ∧ total 0 x ≤ 64 := by
  unfold spec_GoodSpray.f at h
  obtain ⟨k, rfl⟩ : ∃ m, k = m + 1 := ⟨k - 1, by omega⟩
  rw [sin_is] at h
  simp only [Option.bind_some, decide_eq_true_eq, spec_GoodSpray.j0, if_true] at h
  by_cases c1 : 2 ≤ (x.length : Int) ∧ (x.length : Int) ≤ 8
  · rw [if_pos c1] at h
    by_cases c2 : b < 0
    · rw [if_pos c2] at h
      cases h
    · rw [if_neg c2] at h
      by_cases c3 : b ≥ (x.length : Int)
      · rw [if_pos c3] at h
        cases h
      · rw [if_neg c3, if_pos (by omega), if_pos (by omega)] at h
        by_cases c4 : (rd x b != 0) = true
        · rw [if_pos c4] at h
          cases h
        · rw [if_neg c4, sspray_is x hn k (by omega)] at h
          have g := of_decide_eq_true (Option.some.inj h)
          refine ⟨by omega, ⟨by omega, by omega⟩, by simpa using c4, fun j h0 h1 => g.1 _ ?_, g⟩
          unfold rd
          rw [List.getD_eq_getElem?_getD, List.getElem?_eq_getElem (show j.toNat < x.length by omega)]
          exact List.getElem_mem _
  · rw [if_neg c1] at h
    cases h

/-! Two meet. -/
theorem clone_is (x : List Int) (h : x.length ≤ 1048576) : slices_Clone_int_int.f x = some x := by
  unfold slices_Clone_int_int.f
  rw [Option.bind_some, if_pos (by simp; omega), List.nil_append]
theorem sum_set : ∀ (l : List Int) (i : Nat) (v : Int), i < l.length → (l.set i v).sum = l.sum - rd l (i : Int) + v
  | [], i, v, h => absurd h (by simp)
  | x :: l, 0, v, h => by
    rw [show rd (x :: l) ((0 : Nat) : Int) = x from rfl, List.set_cons_zero, List.sum_cons, List.sum_cons]
    omega
  | x :: l, i + 1, v, h => by
    rw [show rd (x :: l) ((i + 1 : Nat) : Int) = rd l (i : Int) from rfl, List.set_cons_succ, List.sum_cons, List.sum_cons, sum_set l i v (by simpa using h)]
    omega
theorem rd_put (l : List Int) (i : Nat) (v j : Int) (hi : i < l.length) (hj : 0 ≤ j) : rd (l.set i v) j = if j = (i : Int) then v else rd l j := by
  unfold rd
  rw [List.getD_eq_getElem?_getD, List.getD_eq_getElem?_getD, List.getElem?_set]
  by_cases c : i = j.toNat
  · rw [if_pos c, if_pos hi, if_pos (by omega)]
    rfl
  · rw [if_neg c, if_neg (by omega)]
/-- What a meeting leaves as it was. -/
def Keep (x : List Int) (b : Int) (R : List Int × Int × Bool × Bool) : Prop := R.2.1 = b ∧ R.1.length = x.length ∧ rd R.1 b = 0 ∧ (∀ y ∈ R.1, 0 ≤ y ∧ y ≤ 64) ∧ R.1.sum = x.sum
theorem keep_give (x : List Int) (b : Int) (c : Bool) (P Q : Int) (hP : 0 ≤ P ∧ P < (x.length : Int)) (hQ : 0 ≤ Q ∧ Q < (x.length : Int)) (hb : 0 ≤ b) (n1 : P ≠ b) (n2 : Q ≠ b) (n3 : P ≠ Q) (hz : rd x b = 0) (hm : ∀ y ∈ x, 0 ≤ y ∧ y ≤ 64) (p2 : rd x P ≥ 2) (p64 : rd x P ≤ 64) (q0 : rd x Q = 0) :
    Keep x b ((x.set Q.toNat (wrap64 (Int.tdiv (rd x P) 2))).set P.toNat (wrap64 ((rd (x.set Q.toNat (wrap64 (Int.tdiv (rd x P) 2))) P) - (rd (x.set Q.toNat (wrap64 (Int.tdiv (rd x P) 2))) Q))), b, c, true) := by
  have td : Int.tdiv (rd x P) 2 = rd x P / 2 := Int.tdiv_eq_ediv_of_nonneg (by omega)
  have wv : wrap64 (rd x P / 2) = rd x P / 2 := wrap_in (by omega) (by omega)
  have eP : ((P.toNat : Nat) : Int) = P := by omega
  have eQ : ((Q.toNat : Nat) : Int) = Q := by omega
  have a1 : rd (x.set Q.toNat (rd x P / 2)) P = rd x P := by rw [rd_put _ _ _ _ (by omega) hP.1, eQ, if_neg n3]
  have a2 : rd (x.set Q.toNat (rd x P / 2)) Q = rd x P / 2 := by rw [rd_put _ _ _ _ (by omega) hQ.1, eQ, if_pos rfl]
  rw [td, wv, a1, a2, wrap_in (by omega) (by omega)]
  refine ⟨rfl, by rw [List.length_set, List.length_set], ?_, ?_, ?_⟩
  · dsimp only
    rw [rd_put _ _ _ _ (by rw [List.length_set]; omega) hb, eP, if_neg (fun e => n1 e.symm), rd_put _ _ _ _ (by omega) hb, eQ, if_neg (fun e => n2 e.symm)]
    exact hz
  · intro y hy
    rcases List.mem_or_eq_of_mem_set hy with h | h
    · rcases List.mem_or_eq_of_mem_set h with h | h
      · exact hm y h
      · omega
    · omega
  · dsimp only
    rw [sum_set _ _ _ (by rw [List.length_set]; omega), eP, a1, sum_set _ _ _ (by omega), eQ, q0]
    omega
theorem meet_is (x : List Int) (b : Int) (c : Bool) (A B : Int) (h8 : 2 ≤ x.length ∧ x.length ≤ 8) (hb : 0 ≤ b ∧ b < (x.length : Int)) (hz : rd x b = 0) (hp : ∀ j : Int, 0 ≤ j → j < (x.length : Int) → 0 ≤ rd x j ∧ rd x j ≤ 64) (hm : ∀ y ∈ x, 0 ≤ y ∧ y ≤ 64) (hg : ∀ k, 1048590 ≤ k → impl_GoodSpray.f k x b c = some true) :
    ∃ R : List Int × Int × Bool × Bool, (R.2.2.2 = true → Keep x b R) ∧ R.1.length ≤ x.length ∧ ∀ k, 1048600 ≤ k → spec_l15Meet.f k x b c A B = some R ∧ impl_MeetBoth.f k x b c A B = some R := by
  have no : ∀ k, 1 ≤ k → spec_l15Meet.j0 k true x b c A B = some (([] : List Int), 0, false, false) ∧ impl_MeetBoth.j0 k true x b c A B = some (([] : List Int), 0, false, false) := by
    intro k hk
    obtain ⟨k, rfl⟩ : ∃ m, k = m + 1 := ⟨k - 1, by omega⟩
    rw [spec_l15Meet.j0, impl_MeetBoth.j0, if_pos rfl, if_pos rfl]
    exact ⟨rfl, rfl⟩
  have w1 : wrap64 ((x.length : Int) - 1) = (x.length : Int) - 1 := wrap_in (by omega) (by omega)
  by_cases r : (0 ≤ A ∧ A < (x.length : Int)) ∧ (0 ≤ B ∧ B < (x.length : Int)) ∧ A ≠ B
  · obtain ⟨hA, hB, hne⟩ := r
    have S : ∀ k, spec_l15Meet.f k x b c A B = spec_l15Meet.j0 k false x b c A B := fun k => by
      unfold spec_l15Meet.f
      rw [if_neg (by omega), if_neg (by omega), if_neg (by omega), if_neg (by omega), beq_eq_false_iff_ne.mpr hne]
    have I : ∀ k, 1048590 ≤ k → impl_MeetBoth.f k x b c A B = impl_MeetBoth.j0 k false x b c A B := fun k hk => by
      unfold impl_MeetBoth.f
      rw [hg k hk, Option.bind_some, if_pos rfl, w1, iin_is, iin_is, decide_eq_true (show 0 ≤ A ∧ A ≤ (x.length : Int) - 1 by omega), decide_eq_true (show 0 ≤ B ∧ B ≤ (x.length : Int) - 1 by omega), Option.bind_some, if_pos rfl, Option.bind_some, if_pos rfl, beq_eq_false_iff_ne.mpr hne]
    have pa := hp A hA.1 hA.2
    have pb := hp B hB.1 hB.2
    have tA0 := eq_true hA.1
    have tA1 := eq_true hA.2
    have tB0 := eq_true hB.1
    have tB1 := eq_true hB.2
    have len : (([] : List Int).length + x.length < 17592186044416) = True := eq_true (by simp; omega)
    have ws : wrap64 (rd x A + rd x B) = rd x A + rd x B := wrap_in (by omega) (by omega)
    have red : ∀ R, (R.2.2.2 = true → Keep x b R) → R.1.length ≤ x.length → (∀ k, spec_l15Meet.j0 (k + 1) false x b c A B = some R ∧ impl_MeetBoth.j0 (k + 1) false x b c A B = some R) → ∃ R : List Int × Int × Bool × Bool, (R.2.2.2 = true → Keep x b R) ∧ R.1.length ≤ x.length ∧ ∀ k, 1048600 ≤ k → spec_l15Meet.f k x b c A B = some R ∧ impl_MeetBoth.f k x b c A B = some R := by
      intro R hR hl h
      refine ⟨R, hR, hl, fun k hk => ?_⟩
      obtain ⟨k, rfl⟩ : ∃ m, k = m + 1 := ⟨k - 1, by omega⟩
      rw [S, I _ (by omega)]
      exact h k
    have kx : ∀ (c' : Bool), Keep x b (x, b, c', true) := fun c' => ⟨rfl, rfl, hz, hm, rfl⟩
    by_cases c1 : A = b
    · subst c1
      have nB : (B = A) = False := eq_false fun e => hne e.symm
      rw [hz] at pa ws
      have z00 : wrap64 (0 + 0) = 0 := wrap_in (by omega) (by omega)
      by_cases c2 : rd x B = 0
      · refine red (x, A, c, true) (fun _ => kx _) (Nat.le_refl _) fun k => ?_
        rw [spec_l15Meet.j0, impl_MeetBoth.j0, clone_is x (by omega)]
        unfold spec_l15Give.f
        cases c <;> simp only [Option.bind_some, List.nil_append, len, tA0, tA1, tB0, tB1, hz, c2, ws, z00, nB, if_true, if_false, Bool.false_eq_true, ge_iff_le, Int.le_refl] <;> exact ⟨by first | trivial | rfl, by first | trivial | rfl⟩
      · have g1 : (0 ≥ rd x B) = False := eq_false (by omega)
        have g2 : (rd x B > 0) = True := eq_true (by omega)
        refine red (x, A, true, true) (fun _ => kx _) (Nat.le_refl _) fun k => ?_
        rw [spec_l15Meet.j0, impl_MeetBoth.j0, clone_is x (by omega)]
        unfold spec_l15Give.f
        have ws' : wrap64 (rd x B) = rd x B := wrap_in (by omega) (by omega)
        cases c <;> simp only [Option.bind_some, List.nil_append, len, tA0, tA1, tB0, tB1, hz, ws, g1, g2, nB, if_true, if_false, Bool.false_eq_true, Int.zero_add, ws', decide_true] <;> exact ⟨by first | trivial | rfl, by first | trivial | rfl⟩
    · have nA : (A = b) = False := eq_false c1
      by_cases c2 : B = b
      · subst c2
        rw [hz] at pb ws
        have g1 : (rd x A ≥ 0) = True := eq_true pa.1
        rw [Int.add_zero] at ws
        refine red (x, B, c || decide (rd x A > 0), true) (fun _ => kx _) (Nat.le_refl _) fun k => ?_
        rw [spec_l15Meet.j0, impl_MeetBoth.j0, clone_is x (by omega)]
        unfold spec_l15Give.f
        cases c <;> simp only [Option.bind_some, List.nil_append, len, tA0, tA1, tB0, tB1, hz, ws, g1, nA, if_true, if_false, Bool.false_eq_true, Int.add_zero, Bool.true_or, Bool.false_or] <;> exact ⟨by first | trivial | rfl, by first | trivial | rfl⟩
      · have nB : (B = b) = False := eq_false c2
        by_cases c3 : rd x A ≥ rd x B
        · have g1 := eq_true c3
          by_cases c4 : rd x A ≥ 2
          · have g2 := eq_true c4
            by_cases c5 : rd x B = 0
            · have g3 := eq_true c5
              refine red (_, b, c, true) (fun _ => keep_give x b c A B hA hB hb.1 c1 c2 hne hz hm c4 (by omega) c5) (by rw [List.length_set, List.length_set]; exact Nat.le_refl _) fun k => ?_
              rw [spec_l15Meet.j0, impl_MeetBoth.j0, clone_is x (by omega)]
              unfold spec_l15Give.f
              simp only [Option.bind_some, List.nil_append, len, tA0, tA1, tB0, tB1, g1, g2, g3, nA, nB, if_true, if_false, Bool.false_eq_true]
              exact ⟨by first | trivial | rfl, by first | trivial | rfl⟩
            · have g3 := eq_false c5
              have g4 : (rd x A = 0) = False := eq_false (by omega)
              refine red (x, b, c, true) (fun _ => kx _) (Nat.le_refl _) fun k => ?_
              rw [spec_l15Meet.j0, impl_MeetBoth.j0, clone_is x (by omega)]
              unfold spec_l15Give.f
              simp only [Option.bind_some, List.nil_append, len, tA0, tA1, tB0, tB1, g1, g2, g3, g4, nA, nB, if_true, if_false, Bool.false_eq_true, ite_self]
              exact ⟨by first | trivial | rfl, by first | trivial | rfl⟩
          · have g2 := eq_false c4
            have g3 : (rd x B ≥ 2) = False := eq_false (by omega)
            refine red (x, b, c, true) (fun _ => kx _) (Nat.le_refl _) fun k => ?_
            rw [spec_l15Meet.j0, impl_MeetBoth.j0, clone_is x (by omega)]
            unfold spec_l15Give.f
            simp only [Option.bind_some, List.nil_append, len, tA0, tA1, tB0, tB1, g1, g2, g3, nA, nB, if_true, if_false, Bool.false_eq_true]
            exact ⟨by first | trivial | rfl, by first | trivial | rfl⟩
        · have g1 := eq_false c3
          have z1 : (rd x B = 0) = False := eq_false (by omega)
          by_cases c4 : rd x B ≥ 2
          · have g2 := eq_true c4
            by_cases c5 : rd x A = 0
            · have g3 := eq_true c5
              have g4 : (rd x A ≥ 2) = False := eq_false (by omega)
              refine red (_, b, c, true) (fun _ => keep_give x b c B A hB hA hb.1 c2 c1 (fun e => hne e.symm) hz hm c4 (by omega) c5) (by rw [List.length_set, List.length_set]; exact Nat.le_refl _) fun k => ?_
              rw [spec_l15Meet.j0, impl_MeetBoth.j0, clone_is x (by omega)]
              unfold spec_l15Give.f
              simp only [Option.bind_some, List.nil_append, len, tA0, tA1, tB0, tB1, g1, g2, g3, g4, nA, nB, z1, if_true, if_false, Bool.false_eq_true]
              exact ⟨by first | trivial | rfl, by first | trivial | rfl⟩
            · have g3 := eq_false c5
              refine red (x, b, c, true) (fun _ => kx _) (Nat.le_refl _) fun k => ?_
              rw [spec_l15Meet.j0, impl_MeetBoth.j0, clone_is x (by omega)]
              unfold spec_l15Give.f
              simp only [Option.bind_some, List.nil_append, len, tA0, tA1, tB0, tB1, g1, g2, g3, nA, nB, z1, if_true, if_false, Bool.false_eq_true, ite_self]
              exact ⟨by first | trivial | rfl, by first | trivial | rfl⟩
          · have g2 := eq_false c4
            have g4 : (rd x A ≥ 2) = False := eq_false (by omega)
            refine red (x, b, c, true) (fun _ => kx _) (Nat.le_refl _) fun k => ?_
            rw [spec_l15Meet.j0, impl_MeetBoth.j0, clone_is x (by omega)]
            unfold spec_l15Give.f
            simp only [Option.bind_some, List.nil_append, len, tA0, tA1, tB0, tB1, g1, g2, g4, nA, nB, z1, if_true, if_false, Bool.false_eq_true]
            exact ⟨by first | trivial | rfl, by first | trivial | rfl⟩
  · refine ⟨(([] : List Int), 0, false, false), fun h => (by cases h), by simp, fun k hk => ?_⟩
    have nk := no k (by omega)
    refine ⟨?_, ?_⟩
    · unfold spec_l15Meet.f
      by_cases d1 : A < 0
      · rw [if_pos d1]
        exact nk.1
      · rw [if_neg d1]
        by_cases d2 : A ≥ (x.length : Int)
        · rw [if_pos d2]
          exact nk.1
        · rw [if_neg d2]
          by_cases d3 : B < 0
          · rw [if_pos d3]
            exact nk.1
          · rw [if_neg d3]
            by_cases d4 : B ≥ (x.length : Int)
            · rw [if_pos d4]
              exact nk.1
            · rw [if_neg d4]
              have d5 : A = B := Classical.byContradiction fun h => r ⟨⟨by omega, by omega⟩, ⟨by omega, by omega⟩, h⟩
              rw [show (A == B) = true from beq_iff_eq.mpr d5]
              exact nk.1
    · unfold impl_MeetBoth.f
      rw [hg k (by omega), Option.bind_some, if_pos rfl, w1, iin_is, iin_is, Option.bind_some, Option.bind_some]
      by_cases d1 : 0 ≤ A ∧ A ≤ (x.length : Int) - 1
      · rw [decide_eq_true d1, if_pos rfl]
        by_cases d2 : 0 ≤ B ∧ B ≤ (x.length : Int) - 1
        · rw [decide_eq_true d2, if_pos rfl]
          have d5 : A = B := Classical.byContradiction fun h => r ⟨⟨by omega, by omega⟩, ⟨by omega, by omega⟩, h⟩
          rw [show (A == B) = true from beq_iff_eq.mpr d5]
          exact nk.2
        · rw [decide_eq_false d2, if_neg Bool.false_ne_true]
          exact nk.2
      · rw [decide_eq_false d1, if_neg Bool.false_ne_true]
        exact nk.2

theorem mono_to {α : Type} {f : Nat → Option α} (h : ∀ k, LeO (f k) (f (k + 1))) {k0 : Nat} {r : α} (e : f k0 = some r) : ∀ d, f (k0 + d) = some r
  | 0 => e
  | d + 1 => h _ _ (mono_to h e d)
theorem meet_both (x : List Int) (b : Int) (c : Bool) (A B : Int) (hn : x.length ≤ 1048576) : ∃ R : List Int × Int × Bool × Bool, R.1.length ≤ 1048576 ∧ ∀ k, 1048600 ≤ k → spec_MeetBoth.f k x b c A B = some R ∧ impl_MeetBoth.f k x b c A B = some R := by
  obtain ⟨r, es, ei⟩ := spray_both x b c hn 1048590 (by omega)
  have S : ∀ k, 1048590 ≤ k → spec_GoodSpray.f k x b c = some r := fun k hk => by
    have := mono_to (fun k => spec_GoodSpray.mono x b c k) es (k - 1048590)
    rwa [show 1048590 + (k - 1048590) = k by omega] at this
  have I : ∀ k, 1048590 ≤ k → impl_GoodSpray.f k x b c = some r := fun k hk => by
    have := mono_to (fun k => impl_GoodSpray.mono x b c k) ei (k - 1048590)
    rwa [show 1048590 + (k - 1048590) = k by omega] at this
  cases r with
  | false =>
    refine ⟨(([] : List Int), 0, false, false), by simp, fun k hk => ⟨?_, ?_⟩⟩
    · unfold spec_MeetBoth.f
      rw [S k (by omega), Option.bind_some, if_neg Bool.false_ne_true]
    · unfold impl_MeetBoth.f
      rw [I k (by omega), Option.bind_some, if_neg Bool.false_ne_true]
      obtain ⟨k, rfl⟩ : ∃ m, k = m + 1 := ⟨k - 1, by omega⟩
      rw [impl_MeetBoth.j0, if_pos rfl]
  | true =>
    obtain ⟨h8, hb, hz, hp, hm, _⟩ := sgood_all x b c hn 1048590 (by omega) es
    obtain ⟨R, _, hl, e⟩ := meet_is x b c A B h8 hb hz hp hm I
    refine ⟨R, by omega, fun k hk => ⟨?_, (e k hk).2⟩⟩
    unfold spec_MeetBoth.f
    rw [S k (by omega), Option.bind_some, if_pos rfl, (e k hk).1]
    rfl
theorem FnExactMeetBoth : laws_FnExactMeetBoth.Stmt := by
  intro l b c A B ⟨⟨hn, _⟩, _, _⟩ _
  refine ⟨2097200, ?_⟩
  unfold laws_FnExactMeetBoth.f
  obtain ⟨r, e, hr⟩ := szSpray_is l b c hn
  rw [e, Option.bind_some]
  by_cases c0 : r < 0
  · rw [if_pos c0]
  · rw [if_neg c0]
    have h1 : l.length ≤ 1048576 := by omega
    have T : ∀ k, 1048576 < k → laws_toSpray.f k l b c = some (l, b, c) := fun k hk => toSpray_is l b c h1 k hk
    have E : ∀ (x : List Int) (p : Int) (q : Bool), x.length ≤ 1048576 → ∀ k, 1048576 < k → laws_eqSpray.f k x p q x p q = some true := fun x p q hx k hk => eqSpray_same x p q hx k hk
    obtain ⟨R, hR, m⟩ := meet_both l b c A B h1
    have ne : (R.2.2.2 != R.2.2.2) = false := by simp
    unfold laws_toMeet.f
    rw [T _ (by omega), Option.bind_some, Option.bind_some]
    dsimp only
    rw [(m _ (by omega)).1, Option.bind_some, Option.bind_some, Option.bind_some]
    dsimp only
    rw [(m _ (by omega)).2, Option.bind_some, E _ _ _ hR _ (by omega), Option.bind_some, if_pos rfl, ne, laws_FnExactMeetBoth.j0, if_neg Bool.false_ne_true, T _ (by omega), Option.bind_some]
    dsimp only
    rw [E l b c h1 _ (by omega), Option.bind_some, if_pos rfl]
    unfold laws_markSpray.f
    rw [markIntS_is l 1 _ (by omega) (by omega) (by omega) (by omega), Option.bind_some, Option.bind_some]
    dsimp only
    rw [if_neg (by omega), E _ _ _ hR _ (by omega), Option.bind_some, if_pos rfl, ne, laws_FnExactMeetBoth.j1, if_neg Bool.false_ne_true]
    unfold laws_markSpray.f laws_heldSpray.f
    rw [markIntS_is R.1 1 _ (by omega) (by omega) (by omega) (by omega), Option.bind_some, Option.bind_some]
    dsimp only
    rw [heldIntS_is R.1.length 1 _ (by omega) (by omega) (by omega) (by omega), Option.bind_some, if_neg (by omega), Option.bind_some, if_neg (by omega), if_pos rfl, T _ (by omega), Option.bind_some]
    unfold laws_toMeet.f
    rw [Option.bind_some]
    dsimp only
    rw [(m _ (by omega)).2, Option.bind_some, E _ _ _ hR _ (by omega), Option.bind_some, if_pos rfl, ne, laws_FnExactMeetBoth.j2, if_neg Bool.false_ne_true]
    unfold laws_heldSpray.f
    rw [heldIntS_is R.1.length 1 _ (by omega) (by omega) (by omega) (by omega), Option.bind_some, if_neg (by omega), Option.bind_some, if_neg (by omega), if_pos rfl]

end Go.Proofs.Ytnphabcbnpenjaa.Pure
