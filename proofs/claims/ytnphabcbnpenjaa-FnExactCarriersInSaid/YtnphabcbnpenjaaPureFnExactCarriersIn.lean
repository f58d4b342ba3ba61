/- The program's CarriersIn returns what the reference's returns, for all rows of tokens. -/
import Derived.Test.YtnphabcbnpenjaaXFnExactCarriersInx4
set_option linter.unusedVariables false
set_option linter.unusedSimpArgs false
namespace Go.Proofs.Ytnphabcbnpenjaa.Pure
open Go.RowKit Go.Proofs.Ytnphabcbnpenjaa.XFnExactCarriersIn Go.Proofs.YtnphabcbnpenjaaW.PrintWords Go.Proofs.YtnphabcbnpenjaaW.PrintLast Go.Proofs.YtnphabcbnpenjaaW.PrintMore

/-- What is to be shown of FnExactCarriersIn, in numbers and lists alone. -/
def laws_FnExactCarriersIn.Stmt : Prop := ∀ (l0_0 : List Int) (a0_1 : Int) (a0_2 : Bool), ((l0_0.length ≤ maxLen ∧ ∀ x ∈ l0_0, (Lit.int .i64 x).wf = true) ∧ ((Lit.int .i64 a0_1).wf = true) ∧ True) → ∃ k, laws_FnExactCarriersIn.f k l0_0 a0_1 a0_2 = some true

theorem wrap_in {x : Int} (h0 : -9223372036854775808 ≤ x) (h1 : x ≤ 9223372036854775807) : wrap64 x = x := by
  unfold wrap64
  omega
theorem wrap_succ {i n : Nat} (h : i < n) (hn : n ≤ 9223372036854775807) : wrap64 ((i : Int) + 1) = ((i + 1 : Nat) : Int) := by
  rw [wrap_in (by omega) (by omega)]
  omega

theorem eqIntS_l0 (a : List Int) (hn : a.length ≤ 9223372036854775807) (d : Nat) : ∀ (k i : Nat), a.length - i = d → d < k → laws_eqIntS.l0 k a a (i : Int) = some true := by
  induction d with
  | zero =>
    intro k i hd hk
    obtain ⟨k, rfl⟩ : ∃ m, k = m + 1 := ⟨k - 1, by omega⟩
    simp only [laws_eqIntS.l0]
    rw [if_neg (by omega)]
  | succ d ih =>
    intro k i hd hk
    obtain ⟨k, rfl⟩ : ∃ m, k = m + 1 := ⟨k - 1, by omega⟩
    simp only [laws_eqIntS.l0]
    rw [if_pos (by omega), if_pos (by omega), if_pos (by omega), if_pos trivial, wrap_succ (n := a.length) (by omega) hn]
    exact ih k (i + 1) (by omega) (by omega)
theorem eqIntS_same (a : List Int) (hn : a.length ≤ 9223372036854775807) (k : Nat) (hk : a.length < k) : laws_eqIntS.f k a a = some true := by
  unfold laws_eqIntS.f
  rw [if_pos rfl]
  exact eqIntS_l0 a hn a.length k 0 (by omega) hk

theorem toIntS_l0 (a : List Int) (hn : a.length ≤ 9223372036854775807) (d : Nat) : ∀ (k i : Nat) (x : List Int), a.length - i = d → i ≤ a.length → x.length = a.length → d < k → laws_toIntS.l0 k a x (i : Int) = some (x.take i ++ a.drop i) := by
  induction d with
  | zero =>
    intro k i x hd hi hx hk
    obtain ⟨k, rfl⟩ : ∃ m, k = m + 1 := ⟨k - 1, by omega⟩
    simp only [laws_toIntS.l0]
    rw [if_neg (by omega), List.take_of_length_le (by omega), List.drop_of_length_le (by omega), List.append_nil]
  | succ d ih =>
    intro k i x hd hi hx hk
    obtain ⟨k, rfl⟩ : ∃ m, k = m + 1 := ⟨k - 1, by omega⟩
    simp only [laws_toIntS.l0]
    rw [if_pos (by omega), if_pos (by omega), if_pos (by omega), wrap_succ (n := a.length) (by omega) hn, ih k (i + 1) _ (by omega) (by omega) (by rw [List.length_set]; exact hx) (by omega)]
    have hi' : i < x.length := by omega
    have hia : i < a.length := by omega
    have e1 : (x.set (i : Int).toNat (rd a (i : Int))).take (i + 1) = x.take i ++ [rd a (i : Int)] := by
      rw [show (i : Int).toNat = i from rfl, List.take_add_one, List.take_set_of_le (Nat.le_refl i), List.getElem?_set_self hi']
      rfl
    have e2 : a.drop i = rd a (i : Int) :: a.drop (i + 1) := by
      rw [List.drop_eq_getElem_cons hia]
      unfold rd
      simp [List.getD_eq_getElem?_getD, List.getElem?_eq_getElem hia]
    rw [e1, e2]
    simp
theorem toIntS_is (a : List Int) (hn : a.length ≤ 35184372088832) (k : Nat) (hk : a.length < k) : laws_toIntS.f k a = some a := by
  unfold laws_toIntS.f
  rw [if_pos (by omega), if_pos (by simpa using hn)]
  have := toIntS_l0 a (by omega) a.length k 0 (List.replicate a.length 0) (by omega) (by omega) (by simp) hk
  simpa using this

theorem markIntS_l0 (d : Nat) : ∀ (k i : Nat) (x : List Int) (m : Int), x.length ≤ 9223372036854775807 → x.length - i = d → i ≤ x.length → d < k → 0 ≤ m → m + d ≤ 9223372036854775807 →
    laws_markIntS.l0 k x m (i : Int) = some (m + d, x.take i ++ (List.range d).map (fun j : Nat => m + j)) := by
  induction d with
  | zero =>
    intro k i x m hn hd hi hk h0 h1
    obtain ⟨k, rfl⟩ : ∃ m, k = m + 1 := ⟨k - 1, by omega⟩
    simp only [laws_markIntS.l0]
    rw [if_neg (by omega), List.take_of_length_le (by omega)]
    simp
  | succ d ih =>
    intro k i x m hn hd hi hk h0 h1
    obtain ⟨k, rfl⟩ : ∃ m, k = m + 1 := ⟨k - 1, by omega⟩
    simp only [laws_markIntS.l0]
    rw [if_pos (by omega), if_pos (by omega), wrap_succ (n := x.length) (by omega) hn, wrap_in (by omega) (by omega),
      ih k (i + 1) (x.set (i : Int).toNat m) (m + 1) (by simpa using hn) (by rw [List.length_set]; omega) (by rw [List.length_set]; omega) (by omega) (by omega) (by omega)]
    have hi' : i < x.length := by omega
    have e1 : (x.set i m).take (i + 1) = x.take i ++ [m] := by
      rw [List.take_add_one, List.take_set_of_le (Nat.le_refl i), List.getElem?_set_self hi']
      rfl
    rw [show (i : Int).toNat = i from rfl, e1, List.range_succ_eq_map, List.map_cons, List.map_map]
    simp only [List.append_assoc, List.cons_append, List.nil_append]
    congr 1
    refine Prod.ext (by simp; omega) ?_
    simp only [Function.comp_def]
    congr 1
    congr 1
    · simp
    · exact List.map_congr_left fun j _ => by simp; omega
theorem markIntS_is (x : List Int) (m : Int) (k : Nat) (hn : x.length ≤ 1000000000000) (hk : x.length < k) (h0 : 0 ≤ m) (h1 : m ≤ 1000000000000000) :
    laws_markIntS.f k x m = some (m + x.length, (List.range x.length).map (fun j : Nat => m + j)) := by
  unfold laws_markIntS.f
  have := markIntS_l0 x.length k 0 x m (by omega) (by omega) (by omega) hk h0 (by omega)
  simpa using this

theorem heldIntS_l0 (d : Nat) : ∀ (k i : Nat) (x : List Int) (m : Int), x.length ≤ 9223372036854775807 → x.length - i = d → i ≤ x.length → d < k → 0 ≤ m → m + d ≤ 9223372036854775807 →
    (∀ j : Nat, j < d → x.getD (i + j) 0 = m + j) → laws_heldIntS.l0 k x m (i : Int) = some (m + d) := by
  induction d with
  | zero =>
    intro k i x m hn hd hi hk h0 h1 hx
    obtain ⟨k, rfl⟩ : ∃ m, k = m + 1 := ⟨k - 1, by omega⟩
    simp only [laws_heldIntS.l0]
    rw [if_neg (by omega)]
    simp
  | succ d ih =>
    intro k i x m hn hd hi hk h0 h1 hx
    obtain ⟨k, rfl⟩ : ∃ m, k = m + 1 := ⟨k - 1, by omega⟩
    simp only [laws_heldIntS.l0]
    have e := hx 0 (by omega)
    rw [if_pos (by omega), if_pos (by omega), if_pos (by unfold rd; simpa using e), wrap_succ (n := x.length) (by omega) hn, wrap_in (by omega) (by omega),
      ih k (i + 1) x (m + 1) hn (by omega) (by omega) (by omega) (by omega) (by omega) (fun j hj => by have := hx (j + 1) (by omega); rw [show i + 1 + j = i + (j + 1) by omega, this]; omega)]
    congr 1
    omega
theorem heldIntS_is (n : Nat) (m : Int) (k : Nat) (hn : n ≤ 1000000000000) (hk : n < k) (h0 : 0 ≤ m) (h1 : m ≤ 1000000000000000) :
    laws_heldIntS.f k ((List.range n).map (fun j : Nat => m + j)) m = some (m + n) := by
  unfold laws_heldIntS.f
  have := heldIntS_l0 n k 0 ((List.range n).map (fun j : Nat => m + j)) m (by simp; omega) (by simp) (by simp) hk h0 (by omega) (fun j hj => by
    simp [List.getD_eq_getElem?_getD, List.getElem?_range hj])
  simpa using this

theorem dropInt (l : List Int) (i : Nat) (h : i < l.length) : l.drop i = rd l (i : Int) :: l.drop (i + 1) := by
  rw [List.drop_eq_getElem_cons h]
  unfold rd
  simp [List.getD_eq_getElem?_getD, List.getElem?_eq_getElem h]
theorem szInt_is (l : List Int) (m : Int) (h : l.length ≤ maxLen) (hm : 0 ≤ m) (hm1 : m ≤ 1048576) : ∃ r : Int, laws_szIntS.f l m = some r ∧ (r < 0 ∨ ((l.length : Int) ≤ m ∧ r = m - l.length)) := by
  have h0 : l.length ≤ 9223372036854775807 := Nat.le_trans h (by decide)
  unfold laws_szIntS.f
  rw [wrap_in (by omega) (by omega)]
  by_cases c : m - (l.length : Int) < 0
  · rw [if_pos c]
    exact ⟨_, rfl, Or.inl (by omega)⟩
  · rw [if_neg c]
    exact ⟨_, rfl, Or.inr ⟨by omega, rfl⟩⟩
theorem sin_is (a b c : Int) : spec_l1In.f a b c = some (decide (b ≤ a ∧ a ≤ c)) := by
  unfold spec_l1In.f
  by_cases h : a ≥ b
  · have h' : b ≤ a := h
    simp [h']
  · have h' : ¬ b ≤ a := h
    simp [h']
theorem iin_is (a b c : Int) : impl_within.f a b c = some (decide (b ≤ a ∧ a ≤ c)) := by
  unfold impl_within.f
  by_cases h : b ≤ a <;> simp [h]
/-- What the rows' numbers add up to, as the program adds. -/
def total (m : Int) (l : List Int) : Int := l.foldl (fun a x => wrap64 (a + x)) m
theorem szSpray_is (l : List Int) (b : Int) (c : Bool) (h : l.length ≤ maxLen) : ∃ r : Int, laws_szSpray.f l b c 1048576 = some r ∧ (r < 0 ∨ l.length ≤ 1048576) := by
  obtain ⟨r, e, hr⟩ := szInt_is l 1048576 h (by omega) (by omega)
  unfold laws_szSpray.f
  rw [e]
  simp only [Option.bind_some]
  by_cases c : r < 0
  · rw [if_pos c]
    exact ⟨_, rfl, Or.inl (by omega)⟩
  · rw [if_neg c]
    exact ⟨_, rfl, by rcases hr with h | h; exact Or.inl h; exact Or.inr (by omega)⟩
theorem toSpray_is (l : List Int) (b : Int) (c : Bool) (h : l.length ≤ 1048576) (k : Nat) (hk : 1048576 < k) : laws_toSpray.f k l b c = some (l, b, c) := by
  unfold laws_toSpray.f
  rw [toIntS_is l (by omega) k (by omega)]
  rfl
theorem eqSpray_same (l : List Int) (b : Int) (c : Bool) (h : l.length ≤ 1048576) (k : Nat) (hk : 1048576 < k) : laws_eqSpray.f k l b c l b c = some true := by
  unfold laws_eqSpray.f
  rw [eqIntS_same l (by omega) k (by omega)]
  simp
theorem tokens_l0 (x : List Int) (hn : x.length ≤ 1048576) (d : Nat) : ∀ (k i : Nat) (m : Int), x.length - i = d → i ≤ x.length → d < k → impl_Spray_tokens.l0 k m x (x.length : Int) (i : Int) = some (total m (x.drop i)) := by
  induction d with
  | zero =>
    intro k i m hd hi hk
    obtain ⟨k, rfl⟩ : ∃ m, k = m + 1 := ⟨k - 1, by omega⟩
    simp only [impl_Spray_tokens.l0]
    rw [if_neg (by omega), List.drop_of_length_le (by omega)]
    rfl
  | succ d ih =>
    intro k i m hd hi hk
    obtain ⟨k, rfl⟩ : ∃ m, k = m + 1 := ⟨k - 1, by omega⟩
    simp only [impl_Spray_tokens.l0]
    rw [if_pos (by omega), if_pos (by omega), if_pos (by omega), wrap_succ (n := x.length) (by omega) (by omega), ih k (i + 1) _ (by omega) (by omega) (by omega), dropInt x i (by omega)]
    rfl
theorem tokens_is (x : List Int) (b : Int) (c : Bool) (hn : x.length ≤ 1048576) (k : Nat) (hk : 1048576 < k) : impl_Spray_tokens.f k x b c = some (total 0 x) := by
  unfold impl_Spray_tokens.f
  rw [show (0 : Int) = ((0 : Nat) : Int) from rfl, tokens_l0 x hn x.length k 0 _ (by omega) (by omega) (by omega), List.drop_zero]
theorem sspray_l0 (x : List Int) (hn : x.length ≤ 1048576) (d : Nat) : ∀ (k i : Nat) (m : Int), x.length - i = d → i ≤ x.length → d < k →
    spec_GoodSpray.l0 k m x (x.length : Int) (i : Int) = some (decide ((∀ y ∈ x.drop i, 0 ≤ y ∧ y ≤ 64) ∧ 1 ≤ total m (x.drop i) ∧ total m (x.drop i) ≤ 64)) := by
  induction d with
  | zero =>
    intro k i m hd hi hk
    obtain ⟨k, rfl⟩ : ∃ m, k = m + 1 := ⟨k - 1, by omega⟩
    simp only [spec_GoodSpray.l0]
    rw [if_neg (by omega), List.drop_of_length_le (by omega), sin_is]
    simp only [Option.bind_some]
    exact congrArg some (decide_eq_decide.mpr ⟨fun h => ⟨by simp, h⟩, fun h => h.2⟩)
  | succ d ih =>
    intro k i m hd hi hk
    obtain ⟨k, rfl⟩ : ∃ m, k = m + 1 := ⟨k - 1, by omega⟩
    simp only [spec_GoodSpray.l0]
    rw [if_pos (by omega), if_pos (by omega), if_pos (by omega), sin_is, wrap_succ (n := x.length) (by omega) (by omega), ih k (i + 1) _ (by omega) (by omega) (by omega), dropInt x i (by omega)]
    simp only [Option.bind_some, decide_eq_true_eq]
    by_cases c : 0 ≤ rd x (i : Int) ∧ rd x (i : Int) ≤ 64
    · rw [if_pos c]
      exact congrArg some (decide_eq_decide.mpr ⟨fun h => ⟨List.forall_mem_cons.mpr ⟨c, h.1⟩, h.2⟩, fun h => ⟨(List.forall_mem_cons.mp h.1).2, h.2⟩⟩)
    · rw [if_neg c]
      exact congrArg some (decide_eq_false fun h => c (h.1 _ List.mem_cons_self)).symm
theorem sspray_is (x : List Int) (hn : x.length ≤ 1048576) (k : Nat) (hk : 1048576 < k) : spec_GoodSpray.l0 k 0 x (x.length : Int) 0 = some (decide ((∀ y ∈ x, 0 ≤ y ∧ y ≤ 64) ∧ 1 ≤ total 0 x ∧ total 0 x ≤ 64)) := by
  have := sspray_l0 x hn x.length k 0 0 (by omega) (by omega) (by omega)
  rw [List.drop_zero] at this
  exact this
theorem ilit_is (a : Int) : impl_GoodSpray_lit1.f a = some (!decide (0 ≤ a ∧ a ≤ 64)) := by
  unfold impl_GoodSpray_lit1.f
  rw [iin_is]
  rfl
theorem idx_l0 (x : List Int) (hn : x.length ≤ 1048576) (d : Nat) : ∀ (i : Nat), x.length - i = d → i ≤ x.length →
    ∃ r : Int, (r ≥ 0 ↔ ¬ ∀ y ∈ x.drop i, 0 ≤ y ∧ y ≤ 64) ∧ ∀ k, d < k → slices_IndexFunc_int_int_impl_GoodSpray_lit1.l0 k x (x.length : Int) (i : Int) = some r := by
  induction d with
  | zero =>
    intro i hd hi
    refine ⟨-1, ?_, fun k hk => ?_⟩
    · rw [List.drop_of_length_le (by omega)]
      simp
    · obtain ⟨k, rfl⟩ : ∃ m, k = m + 1 := ⟨k - 1, by omega⟩
      simp only [slices_IndexFunc_int_int_impl_GoodSpray_lit1.l0]
      rw [if_neg (by omega)]
  | succ d ih =>
    intro i hd hi
    by_cases c : 0 ≤ rd x (i : Int) ∧ rd x (i : Int) ≤ 64
    · obtain ⟨r, hr, h2⟩ := ih (i + 1) (by omega) (by omega)
      refine ⟨r, ?_, fun k hk => ?_⟩
      · rw [hr, dropInt x i (by omega)]
        simp only [List.forall_mem_cons, c, true_and, and_self]
      · obtain ⟨k, rfl⟩ : ∃ m, k = m + 1 := ⟨k - 1, by omega⟩
        simp only [slices_IndexFunc_int_int_impl_GoodSpray_lit1.l0]
        rw [if_pos (by omega), if_pos (by omega), if_pos (by omega), ilit_is, wrap_succ (n := x.length) (by omega) (by omega)]
        simp only [Option.bind_some, c, and_self, decide_true, Bool.not_true, Bool.false_eq_true, if_false]
        exact h2 k (by omega)
    · refine ⟨(i : Int), ?_, fun k hk => ?_⟩
      · rw [dropInt x i (by omega)]
        exact ⟨fun _ h => c (h _ List.mem_cons_self), fun _ => by omega⟩
      · obtain ⟨k, rfl⟩ : ∃ m, k = m + 1 := ⟨k - 1, by omega⟩
        simp only [slices_IndexFunc_int_int_impl_GoodSpray_lit1.l0]
        rw [if_pos (by omega), if_pos (by omega), if_pos (by omega), ilit_is, decide_eq_false c]
        simp only [Option.bind_some, Bool.not_false, if_true]
theorem cont_is (x : List Int) (hn : x.length ≤ 1048576) (k : Nat) (hk : 1048576 < k) : slices_ContainsFunc_int_int_impl_GoodSpray_lit1.f k x = some (decide (¬ ∀ y ∈ x, 0 ≤ y ∧ y ≤ 64)) := by
  unfold slices_ContainsFunc_int_int_impl_GoodSpray_lit1.f slices_IndexFunc_int_int_impl_GoodSpray_lit1.f
  obtain ⟨r, hr, e⟩ := idx_l0 x hn x.length 0 (by omega) (by omega)
  rw [show (0 : Int) = ((0 : Nat) : Int) from rfl, e k (by omega)]
  simp only [Option.bind_some]
  rw [List.drop_zero] at hr
  congr 1
  rw [Bool.eq_iff_iff, decide_eq_true_eq, decide_eq_true_eq]
  exact hr
/-- Both answer alike on every row. -/
theorem spray_both (x : List Int) (b : Int) (c : Bool) (hn : x.length ≤ 1048576) (k : Nat) (hk : 1048577 < k) : ∃ r, spec_GoodSpray.f k x b c = some r ∧ impl_GoodSpray.f k x b c = some r := by
  unfold spec_GoodSpray.f impl_GoodSpray.f impl_isWide.f
  obtain ⟨k, rfl⟩ : ∃ m, k = m + 1 := ⟨k - 1, by omega⟩
  rw [sin_is, iin_is, iin_is, wrap_in (by omega) (by omega)]
  simp only [Option.bind_some, decide_eq_true_eq, spec_GoodSpray.j0, impl_GoodSpray.j0, if_true]
  by_cases c1 : 2 ≤ (x.length : Int) ∧ (x.length : Int) ≤ 8
  · rw [if_pos c1, if_pos c1]
    by_cases c2 : 0 ≤ b ∧ b ≤ (x.length : Int) - 1
    · rw [if_pos c2]
      simp only [if_neg (show ¬ b < 0 by omega), if_neg (show ¬ b ≥ (x.length : Int) by omega), if_pos (show 0 ≤ b by omega), if_pos (show b < (x.length : Int) by omega)]
      by_cases c3 : (rd x b != 0) = true
      · rw [if_pos c3, if_pos c3]
        exact ⟨_, rfl, rfl⟩
      · rw [if_neg c3, if_neg c3, cont_is x hn k (by omega), tokens_is x b c hn k (by omega), sspray_is x hn k (by omega)]
        simp only [Option.bind_some, decide_eq_true_eq]
        refine ⟨_, rfl, ?_⟩
        by_cases c4 : ∀ y ∈ x, 0 ≤ y ∧ y ≤ 64
        · rw [if_neg (fun h => h c4), iin_is]
          exact congrArg some (decide_eq_decide.mpr ⟨fun h => ⟨c4, h⟩, fun h => h.2⟩)
        · rw [if_pos c4]
          exact congrArg some (decide_eq_false fun h => c4 h.1).symm
    · rw [if_neg c2]
      by_cases c3 : b < 0
      · rw [if_pos c3]
        exact ⟨_, rfl, rfl⟩
      · rw [if_neg c3, if_pos (by omega)]
        exact ⟨_, rfl, rfl⟩
  · rw [if_neg c1, if_neg c1]
    exact ⟨_, rfl, rfl⟩

/-! Who has tokens. -/
/-- Those below j that have some. -/
def sel (x : List Int) : Nat → List Int
  | 0 => []
  | j + 1 => sel x j ++ (if rd x (j : Int) > 0 then [(j : Int)] else [])
/-- All numbers below j. -/
def nums : Nat → List Int
  | 0 => []
  | j + 1 => nums j ++ [(j : Int)]
theorem nums_len : ∀ j, (nums j).length = j
  | 0 => rfl
  | j + 1 => by rw [nums, List.length_append, nums_len j]; rfl
theorem sel_len (x : List Int) : ∀ j, (sel x j).length ≤ j
  | 0 => Nat.le_refl _
  | j + 1 => by
    have := sel_len x j
    rw [sel, List.length_append]
    split <;> simp <;> omega
theorem rd_nums (j : Nat) : ∀ n, j < n → rd (nums n) (j : Int) = (j : Int)
  | 0, h => absurd h (by omega)
  | n + 1, h => by
    have l := nums_len n
    unfold rd
    rw [nums, show ((j : Int)).toNat = j from rfl, List.getD_eq_getElem?_getD, List.getElem?_append]
    by_cases c : j < n
    · rw [if_pos (by omega), ← List.getD_eq_getElem?_getD]
      exact rd_nums j n c
    · rw [if_neg (by omega), show j - (nums n).length = 0 by omega, show j = n by omega]
      rfl
theorem scar_l0 (x : List Int) (hn : x.length ≤ 1048576) (d : Nat) : ∀ (k i : Nat), x.length - i = d → i ≤ x.length → d < k → spec_CarriersIn.l0 k (sel x i) x (x.length : Int) (i : Int) = some (sel x x.length, true) := by
  induction d with
  | zero =>
    intro k i hd hi hk
    obtain ⟨k, rfl⟩ : ∃ m, k = m + 1 := ⟨k - 1, by omega⟩
    rw [spec_CarriersIn.l0, if_neg (by omega), show i = x.length by omega]
  | succ d ih =>
    intro k i hd hi hk
    obtain ⟨k, rfl⟩ : ∃ m, k = m + 1 := ⟨k - 1, by omega⟩
    have sl := sel_len x i
    have := ih k (i + 1) (by omega) (by omega) (by omega)
    rw [sel] at this
    rw [spec_CarriersIn.l0, if_pos (by omega), if_pos (by omega), if_pos (by omega), wrap_succ (n := x.length) (by omega) (by omega)]
    by_cases c : rd x (i : Int) > 0
    · rw [if_pos c] at this
      rw [if_pos c, if_pos (by omega)]
      exact this
    · rw [if_neg c, List.append_nil] at this
      rw [if_neg c]
      exact this
theorem num_l0 (n : Nat) (hn : n ≤ 1048576) (d : Nat) : ∀ (k i : Nat), n - i = d → i ≤ n → d < k → impl_numbered.l0 k (nums i) (n : Int) (i : Int) = some (nums n) := by
  induction d with
  | zero =>
    intro k i hd hi hk
    obtain ⟨k, rfl⟩ : ∃ m, k = m + 1 := ⟨k - 1, by omega⟩
    rw [impl_numbered.l0, if_neg (by omega), show i = n by omega]
  | succ d ih =>
    intro k i hd hi hk
    obtain ⟨k, rfl⟩ : ∃ m, k = m + 1 := ⟨k - 1, by omega⟩
    have sl := nums_len i
    have := ih k (i + 1) (by omega) (by omega) (by omega)
    rw [nums] at this
    rw [impl_numbered.l0, if_pos (by omega), if_pos (by omega), wrap_succ (n := n) (by omega) (by omega)]
    exact this
theorem clit_is (x : List Int) (j : Nat) (hj : j < x.length) (b : Int) (c : Bool) : impl_CarriersIn_lit1_captured.f (j : Int) x b c = some (rd x (j : Int) == 0, b, c) := by
  unfold impl_CarriersIn_lit1_captured.f
  rw [if_pos (by omega), if_pos (by omega)]
theorem cidx_l0 (x : List Int) (hn : x.length ≤ 1048576) (hp : ∀ j : Nat, j < x.length → 0 ≤ rd x (j : Int)) (b : Int) (c : Bool) (d : Nat) : ∀ i : Nat, x.length - i = d → i ≤ x.length → sel x i = nums i →
    ∃ r : Int, ((r = -1 ∧ sel x x.length = nums x.length) ∨ ∃ m : Nat, r = (m : Int) ∧ m < x.length ∧ rd x (m : Int) = 0 ∧ sel x m = nums m) ∧
      ∀ k, d < k → slices_IndexFunc_int_int_impl_CarriersIn_lit1.l0 k (nums x.length) (x.length : Int) (i : Int) x b c = some (r, b, c) := by
  have nl := nums_len x.length
  induction d with
  | zero =>
    intro i hd hi hs
    have e : i = x.length := by omega
    refine ⟨-1, Or.inl ⟨rfl, by rw [← e]; exact hs⟩, fun k hk => ?_⟩
    obtain ⟨k, rfl⟩ : ∃ m, k = m + 1 := ⟨k - 1, by omega⟩
    rw [slices_IndexFunc_int_int_impl_CarriersIn_lit1.l0, if_neg (by omega)]
  | succ d ih =>
    intro i hd hi hs
    have pi := hp i (by omega)
    by_cases q : rd x (i : Int) = 0
    · refine ⟨(i : Int), Or.inr ⟨i, rfl, by omega, q, hs⟩, fun k hk => ?_⟩
      obtain ⟨k, rfl⟩ : ∃ m, k = m + 1 := ⟨k - 1, by omega⟩
      rw [slices_IndexFunc_int_int_impl_CarriersIn_lit1.l0, if_pos (by omega), if_pos (by omega), if_pos (by omega), rd_nums i x.length (by omega), clit_is x i (by omega), Option.bind_some]
      dsimp only
      rw [if_pos (by rw [q]; rfl)]
    · obtain ⟨r, hr, e⟩ := ih (i + 1) (by omega) (by omega) (by rw [sel, nums, hs, if_pos (by omega)])
      refine ⟨r, hr, fun k hk => ?_⟩
      obtain ⟨k, rfl⟩ : ∃ m, k = m + 1 := ⟨k - 1, by omega⟩
      rw [slices_IndexFunc_int_int_impl_CarriersIn_lit1.l0, if_pos (by omega), if_pos (by omega), if_pos (by omega), rd_nums i x.length (by omega), clit_is x i (by omega), Option.bind_some]
      dsimp only
      rw [if_neg (by rw [beq_iff_eq]; exact q), wrap_succ (n := x.length) (by omega) (by omega)]
      exact e k (by omega)
theorem putL_take (zs : List Int) : ∀ (xs : List Int) (o i : Nat), i ≤ o → (putL xs o zs).take i = xs.take i := by
  induction zs with
  | nil => intro xs o i h; rfl
  | cons z zs ih =>
    intro xs o i h
    rw [putL, ih _ _ _ (by omega), List.take_set_of_le h]
theorem cdel_l0 (x : List Int) (hn : x.length ≤ 1048576) (h0 : 0 < x.length) (hp : ∀ j : Nat, j < x.length → 0 ≤ rd x (j : Int)) (b : Int) (c : Bool) (d : Nat) : ∀ (j : Nat) (y : List Int), x.length - j = d → j ≤ x.length → y.length = x.length → (sel x j).length < j → y.take (sel x j).length = sel x j → (∀ q : Nat, j ≤ q → q < x.length → rd y (q : Int) = (q : Int)) →
    ∀ k, d < k → slices_DeleteFunc_int_int_impl_CarriersIn_lit1.l0 k y ((sel x j).length : Int) (j : Int) x b c = some (sel x x.length, b, c) := by
  induction d with
  | zero =>
    intro j y hd hj hy hl ht hr k hk
    obtain ⟨k, rfl⟩ : ∃ m, k = m + 1 := ⟨k - 1, by omega⟩
    have e : j = x.length := by omega
    rw [slices_DeleteFunc_int_int_impl_CarriersIn_lit1.l0, if_neg (by omega), if_pos (by omega), if_pos (by omega), if_pos (by omega), putL_take _ _ _ _ (Nat.le_refl _), show (((sel x j).length : Int)).toNat = (sel x j).length from rfl, ht, e]
  | succ d ih =>
    intro j y hd hj hy hl ht hr k hk
    obtain ⟨k, rfl⟩ : ∃ m, k = m + 1 := ⟨k - 1, by omega⟩
    have pj := hp j (by omega)
    rw [slices_DeleteFunc_int_int_impl_CarriersIn_lit1.l0, if_pos (by omega), if_pos (by omega), hr j (Nat.le_refl _) (by omega), clit_is x j (by omega), Option.bind_some, wrap_succ (n := x.length) (by omega) (by omega)]
    dsimp only
    by_cases q : rd x (j : Int) = 0
    · have e : sel x (j + 1) = sel x j := by rw [sel, if_neg (by omega), List.append_nil]
      rw [if_pos (by rw [q]; rfl)]
      have := ih (j + 1) y (by omega) (by omega) hy (by rw [e]; omega) (by rw [e]; exact ht) (fun m h1 h2 => hr m (by omega) h2) k (by omega)
      rw [e] at this
      exact this
    · have e : sel x (j + 1) = sel x j ++ [(j : Int)] := by rw [sel, if_pos (by omega)]
      have el : (sel x (j + 1)).length = (sel x j).length + 1 := by rw [e, List.length_append]; rfl
      rw [if_neg (by rw [beq_iff_eq]; exact q), if_pos (by omega), if_pos (by omega), wrap_succ (n := x.length) (by omega) (by omega), show (((sel x j).length : Int)).toNat = (sel x j).length from rfl]
      have := ih (j + 1) (y.set (sel x j).length (j : Int)) (by omega) (by omega) (by rw [List.length_set]; exact hy) (by rw [el]; omega) (by
        rw [el, e, List.take_add_one, List.take_set_of_le (Nat.le_refl _), ht, List.getElem?_set_self (by omega)]
        rfl) (fun m h1 h2 => by
        have := hr m (by omega) h2
        unfold rd at this ⊢
        rw [List.getD_eq_getElem?_getD] at this ⊢
        rw [show ((m : Int)).toNat = m from rfl] at this ⊢
        rw [List.getElem?_set_ne (by omega)]
        exact this) k (by omega)
      rw [el] at this
      exact this
theorem cdel_is (x : List Int) (hn : x.length ≤ 1048576) (h0 : 0 < x.length) (hp : ∀ j : Nat, j < x.length → 0 ≤ rd x (j : Int)) (b : Int) (c : Bool) (k : Nat) (hk : 1048577 < k) : slices_DeleteFunc_int_int_impl_CarriersIn_lit1.f k (nums x.length) x b c = some (sel x x.length, b, c) := by
  unfold slices_DeleteFunc_int_int_impl_CarriersIn_lit1.f slices_IndexFunc_int_int_impl_CarriersIn_lit1.f
  obtain ⟨r, hr, e⟩ := cidx_l0 x hn hp b c x.length 0 (by omega) (by omega) rfl
  have e0 := e k (by omega)
  rw [show ((0 : Nat) : Int) = 0 from rfl] at e0
  rw [nums_len, e0, Option.bind_some]
  dsimp only
  rcases hr with ⟨r1, r2⟩ | ⟨m, r1, r2, r3, r4⟩
  · rw [if_pos r1, r2]
  · have ml : (sel x m).length = m := by rw [r4, nums_len]
    have e1 : sel x (m + 1) = sel x m := by rw [sel, if_neg (by omega), List.append_nil]
    rw [if_neg (by omega), r1, wrap_succ (n := x.length) (by omega) (by omega)]
    have := cdel_l0 x hn h0 hp b c (x.length - (m + 1)) (m + 1) (nums x.length) rfl (by omega) (nums_len _) (by rw [e1, ml]; omega) (by
      rw [e1, ml, r4]
      have tk : ∀ n, m ≤ n → (nums n).take m = nums m := by
        intro n hmn
        induction n with
        | zero => rw [show m = 0 by omega]; rfl
        | succ n ih =>
          by_cases z : m = n + 1
          · rw [z]
            exact List.take_of_length_le (by rw [nums_len]; omega)
          · rw [nums, List.take_append_of_le_length (by rw [nums_len]; omega)]
            exact ih (by omega)
      exact tk _ (by omega)) (fun q h1 h2 => rd_nums q _ h2) k (by omega)
    rw [e1, ml] at this
    exact this
theorem sgood_pos (x : List Int) (b : Int) (c : Bool) (hn : x.length ≤ 1048576) (k : Nat) (hk : 1048577 < k) (h : spec_GoodSpray.f k x b c = some true) : 0 < x.length ∧ ∀ j : Nat, j < x.length → 0 ≤ rd x (j : Int) := by
  unfold spec_GoodSpray.f at h
  obtain ⟨k, rfl⟩ : ∃ m, k = m + 1 := ⟨k - 1, by omega⟩
  rw [sin_is] at h
  simp only [Option.bind_some, decide_eq_true_eq, spec_GoodSpray.j0, if_true] at h
  by_cases c1 : 2 ≤ (x.length : Int) ∧ (x.length : Int) ≤ 8
  · rw [if_pos c1] at h
    by_cases c2 : b < 0
    · rw [if_pos c2] at h
      cases h
    · rw [if_neg c2] at h
      by_cases c3 : b ≥ (x.length : Int)
      · rw [if_pos c3] at h
        cases h
      · rw [if_neg c3, if_pos (by omega), if_pos (by omega)] at h
        by_cases c4 : (rd x b != 0) = true
        · rw [if_pos c4] at h
          cases h
        · rw [if_neg c4, sspray_is x hn k (by omega)] at h
          have g := of_decide_eq_true (Option.some.inj h)
          exact ⟨by omega, fun j hj => (g.1 _ (by
            unfold rd
            rw [show ((j : Int)).toNat = j from rfl, List.getD_eq_getElem?_getD, List.getElem?_eq_getElem hj]
            exact List.getElem_mem hj)).1⟩
  · rw [if_neg c1] at h
    cases h
theorem carriers_both (x : List Int) (b : Int) (c : Bool) (hn : x.length ≤ 1048576) (k : Nat) (hk : 1048600 ≤ k) : ∃ (R : List Int) (f : Bool), R.length ≤ 1048576 ∧ spec_CarriersIn.f k x b c = some (R, f) ∧ impl_CarriersIn.f k x b c = some (R, f) := by
  obtain ⟨r, es, ei⟩ := spray_both x b c hn k (by omega)
  unfold spec_CarriersIn.f impl_CarriersIn.f impl_numbered.f
  cases r with
  | false =>
    rw [es, ei]
    exact ⟨[], false, by simp, rfl, rfl⟩
  | true =>
    obtain ⟨h0, hp⟩ := sgood_pos x b c hn k (by omega) es
    have a1 := scar_l0 x hn x.length k 0 (by omega) (by omega) (by omega)
    have a2 := num_l0 x.length hn x.length k 0 (by omega) (by omega) (by omega)
    rw [show ((0 : Nat) : Int) = 0 from rfl] at a1 a2
    have a1' : spec_CarriersIn.l0 k ([] : List Int) x (x.length : Int) 0 = some (sel x x.length, true) := a1
    have a2' : impl_numbered.l0 k ([] : List Int) (x.length : Int) 0 = some (nums x.length) := a2
    refine ⟨sel x x.length, true, by have := sel_len x x.length; omega, ?_, ?_⟩
    · rw [es, Option.bind_some, if_pos rfl, a1']
    · rw [ei, Option.bind_some, if_pos rfl, a2', Option.bind_some, cdel_is x hn h0 hp b c k (by omega)]
      rfl

theorem FnExactCarriersIn : laws_FnExactCarriersIn.Stmt := by
  intro l b c ⟨⟨hn, _⟩, _, _⟩
  refine ⟨2097200, ?_⟩
  unfold laws_FnExactCarriersIn.f
  obtain ⟨r, e, hr⟩ := szSpray_is l b c hn
  rw [e, Option.bind_some]
  by_cases c0 : r < 0
  · rw [if_pos c0]
  · rw [if_neg c0]
    have h1 : l.length ≤ 1048576 := by omega
    have T : ∀ k, 1048576 < k → laws_toSpray.f k l b c = some (l, b, c) := fun k hk => toSpray_is l b c h1 k hk
    have E : ∀ k, 1048576 < k → laws_eqSpray.f k l b c l b c = some true := fun k hk => eqSpray_same l b c h1 k hk
    obtain ⟨R, f, hR, es, ei⟩ := carriers_both l b c h1 2097200 (by omega)
    obtain ⟨R', f', _, es', ei'⟩ := carriers_both l b c h1 2097198 (by omega)
    have same : R' = R ∧ f' = f := by
      have m : ∀ k, LeO (spec_CarriersIn.f k l b c) (spec_CarriersIn.f (k + 1) l b c) := fun k => spec_CarriersIn.mono l b c k
      have m1 := m 2097199 _ (m 2097198 _ es')
      rw [es] at m1
      injection m1 with m1
      injection m1 with m1 m2
      exact ⟨m1.symm, m2.symm⟩
    rw [same.1, same.2] at ei'
    have ne : (f != f) = false := by simp
    rw [T _ (by omega), Option.bind_some]
    dsimp only
    rw [es, Option.bind_some, Option.bind_some]
    dsimp only
    rw [ei, Option.bind_some, eqIntS_same R (by omega) _ (by omega), Option.bind_some, if_pos rfl, ne, laws_FnExactCarriersIn.j0, if_neg Bool.false_ne_true, T _ (by omega), Option.bind_some, E _ (by omega), Option.bind_some, if_pos rfl]
    unfold laws_markSpray.f
    rw [markIntS_is l 1 _ (by omega) (by omega) (by omega) (by omega), Option.bind_some, Option.bind_some]
    dsimp only
    rw [if_neg (by omega), eqIntS_same R (by omega) _ (by omega), Option.bind_some, if_pos rfl, ne, laws_FnExactCarriersIn.j1, if_neg Bool.false_ne_true, markIntS_is R 1 _ (by omega) (by omega) (by omega) (by omega), Option.bind_some]
    dsimp only
    rw [heldIntS_is R.length 1 _ (by omega) (by omega) (by omega) (by omega), Option.bind_some, if_neg (by omega), if_pos rfl, T _ (by omega), Option.bind_some]
    dsimp only
    rw [ei', Option.bind_some, eqIntS_same R (by omega) _ (by omega), Option.bind_some, if_pos rfl, ne, laws_FnExactCarriersIn.j2, if_neg Bool.false_ne_true, heldIntS_is R.length 1 _ (by omega) (by omega) (by omega) (by omega), Option.bind_some, if_neg (by omega), if_pos rfl]

end Go.Proofs.Ytnphabcbnpenjaa.Pure
