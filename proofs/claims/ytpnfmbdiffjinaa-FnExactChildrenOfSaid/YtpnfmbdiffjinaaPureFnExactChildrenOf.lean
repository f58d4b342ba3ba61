/- The program's ChildrenOf returns what the reference's returns, for all lists and nodes; it writes into none and its list is new memory. -/
import Derived.Test.YtpnfmbdiffjinaaPFnExactChildrenOfx3
set_option linter.unusedVariables false
set_option linter.unusedSimpArgs false
namespace Go.Proofs.Ytpnfmbdiffjinaa.Pure
open Go.RowKit Go.Proofs.Ytpnfmbdiffjinaa.PFnExactChildrenOf Go.Proofs.YtpnfmbdiffjinaaW.PrintWords Go.Proofs.YtpnfmbdiffjinaaW.PrintLast Go.Proofs.YtpnfmbdiffjinaaW.PrintMore

/-- What is to be shown of FnExactChildrenOf, in numbers and lists alone. -/
def laws_FnExactChildrenOf.Stmt : Prop := ∀ (l0 : List Int) (a1 : Int), (l0.length ≤ maxLen ∧ ∀ x ∈ l0, (Lit.int .i64 x).wf = true) → ((Lit.int .i64 a1).wf = true) → ∃ k, laws_FnExactChildrenOf.f k l0 a1 = some true

theorem wrap_in {x : Int} (h0 : -9223372036854775808 ≤ x) (h1 : x ≤ 9223372036854775807) : wrap64 x = x := by
  unfold wrap64
  omega
theorem wrap_succ {i n : Nat} (h : i < n) (hn : n ≤ 9223372036854775807) : wrap64 ((i : Int) + 1) = ((i + 1 : Nat) : Int) := by
  rw [wrap_in (by omega) (by omega)]
  omega

theorem in_eq (a b c : Int) : spec_l1In.f a b c = some (decide (b ≤ a ∧ a ≤ c)) := by
  unfold spec_l1In.f
  by_cases h : b ≤ a <;> simp [h]
theorem within_eq (a b c : Int) : impl_within.f a b c = some (decide (b ≤ a ∧ a ≤ c)) := by
  unfold impl_within.f
  by_cases h : b ≤ a <;> simp [h]

theorem eqIntS_l0 (a : List Int) (hn : a.length ≤ 9223372036854775807) (d : Nat) : ∀ (k i : Nat), a.length - i = d → d < k → laws_eqIntS.l0 k a a (i : Int) = some true := by
  induction d with
  | zero =>
    intro k i hd hk
    obtain ⟨k, rfl⟩ : ∃ m, k = m + 1 := ⟨k - 1, by omega⟩
    simp only [laws_eqIntS.l0]
    rw [if_neg (by omega)]
  | succ d ih =>
    intro k i hd hk
    obtain ⟨k, rfl⟩ : ∃ m, k = m + 1 := ⟨k - 1, by omega⟩
    simp only [laws_eqIntS.l0]
    rw [if_pos (by omega), if_pos (by omega), if_pos (by omega), if_pos trivial, wrap_succ (n := a.length) (by omega) hn]
    exact ih k (i + 1) (by omega) (by omega)
theorem eqIntS_same (a : List Int) (hn : a.length ≤ 9223372036854775807) (k : Nat) (hk : a.length < k) : laws_eqIntS.f k a a = some true := by
  unfold laws_eqIntS.f
  rw [if_pos rfl]
  exact eqIntS_l0 a hn a.length k 0 (by omega) hk

theorem markIntS_l0 (d : Nat) : ∀ (k i : Nat) (x : List Int) (m : Int), x.length ≤ 9223372036854775807 → x.length - i = d → i ≤ x.length → d < k → 0 ≤ m → m + d ≤ 9223372036854775807 →
    laws_markIntS.l0 k x m (i : Int) = some (m + d, x.take i ++ (List.range d).map (fun j : Nat => m + j)) := by
  induction d with
  | zero =>
    intro k i x m hn hd hi hk h0 h1
    obtain ⟨k, rfl⟩ : ∃ m, k = m + 1 := ⟨k - 1, by omega⟩
    simp only [laws_markIntS.l0]
    rw [if_neg (by omega), List.take_of_length_le (by omega)]
    simp
  | succ d ih =>
    intro k i x m hn hd hi hk h0 h1
    obtain ⟨k, rfl⟩ : ∃ m, k = m + 1 := ⟨k - 1, by omega⟩
    simp only [laws_markIntS.l0]
    rw [if_pos (by omega), if_pos (by omega), wrap_succ (n := x.length) (by omega) hn, wrap_in (by omega) (by omega),
      ih k (i + 1) (x.set (i : Int).toNat m) (m + 1) (by simpa using hn) (by rw [List.length_set]; omega) (by rw [List.length_set]; omega) (by omega) (by omega) (by omega)]
    have hi' : i < x.length := by omega
    have e1 : (x.set i m).take (i + 1) = x.take i ++ [m] := by
      rw [List.take_add_one, List.take_set_of_le (Nat.le_refl i), List.getElem?_set_self hi']
      rfl
    rw [show (i : Int).toNat = i from rfl, e1, List.range_succ_eq_map, List.map_cons, List.map_map]
    simp only [List.append_assoc, List.cons_append, List.nil_append]
    congr 1
    refine Prod.ext (by simp; omega) ?_
    simp only [Function.comp_def]
    congr 1
    congr 1
    · simp
    · exact List.map_congr_left fun j _ => by simp; omega
theorem markIntS_is (x : List Int) (m : Int) (k : Nat) (hn : x.length ≤ 1000000000000) (hk : x.length < k) (h0 : 0 ≤ m) (h1 : m ≤ 1000000000000000) :
    laws_markIntS.f k x m = some (m + x.length, (List.range x.length).map (fun j : Nat => m + j)) := by
  unfold laws_markIntS.f
  have := markIntS_l0 x.length k 0 x m (by omega) (by omega) (by omega) hk h0 (by omega)
  simpa using this

theorem heldIntS_l0 (d : Nat) : ∀ (k i : Nat) (x : List Int) (m : Int), x.length ≤ 9223372036854775807 → x.length - i = d → i ≤ x.length → d < k → 0 ≤ m → m + d ≤ 9223372036854775807 →
    (∀ j : Nat, j < d → x.getD (i + j) 0 = m + j) → laws_heldIntS.l0 k x m (i : Int) = some (m + d) := by
  induction d with
  | zero =>
    intro k i x m hn hd hi hk h0 h1 hx
    obtain ⟨k, rfl⟩ : ∃ m, k = m + 1 := ⟨k - 1, by omega⟩
    simp only [laws_heldIntS.l0]
    rw [if_neg (by omega)]
    simp
  | succ d ih =>
    intro k i x m hn hd hi hk h0 h1 hx
    obtain ⟨k, rfl⟩ : ∃ m, k = m + 1 := ⟨k - 1, by omega⟩
    simp only [laws_heldIntS.l0]
    have e := hx 0 (by omega)
    rw [if_pos (by omega), if_pos (by omega), if_pos (by unfold rd; simpa using e), wrap_succ (n := x.length) (by omega) hn, wrap_in (by omega) (by omega),
      ih k (i + 1) x (m + 1) hn (by omega) (by omega) (by omega) (by omega) (by omega) (fun j hj => by have := hx (j + 1) (by omega); rw [show i + 1 + j = i + (j + 1) by omega, this]; omega)]
    congr 1
    omega
theorem heldIntS_is (n : Nat) (m : Int) (k : Nat) (hn : n ≤ 1000000000000) (hk : n < k) (h0 : 0 ≤ m) (h1 : m ≤ 1000000000000000) :
    laws_heldIntS.f k ((List.range n).map (fun j : Nat => m + j)) m = some (m + n) := by
  unfold laws_heldIntS.f
  have := heldIntS_l0 n k 0 ((List.range n).map (fun j : Nat => m + j)) m (by simp; omega) (by simp) (by simp) hk h0 (by omega) (fun j hj => by
    simp [List.getD_eq_getElem?_getD, List.getElem?_range hj])
  simpa using this

theorem toIntS_l0 (a : List Int) (hn : a.length ≤ 9223372036854775807) (d : Nat) : ∀ (k i : Nat) (x : List Int), a.length - i = d → i ≤ a.length → x.length = a.length → d < k → laws_toIntS.l0 k a x (i : Int) = some (x.take i ++ a.drop i) := by
  induction d with
  | zero =>
    intro k i x hd hi hx hk
    obtain ⟨k, rfl⟩ : ∃ m, k = m + 1 := ⟨k - 1, by omega⟩
    simp only [laws_toIntS.l0]
    rw [if_neg (by omega), List.take_of_length_le (by omega), List.drop_of_length_le (by omega), List.append_nil]
  | succ d ih =>
    intro k i x hd hi hx hk
    obtain ⟨k, rfl⟩ : ∃ m, k = m + 1 := ⟨k - 1, by omega⟩
    simp only [laws_toIntS.l0]
    rw [if_pos (by omega), if_pos (by omega), if_pos (by omega), wrap_succ (n := a.length) (by omega) hn, ih k (i + 1) _ (by omega) (by omega) (by rw [List.length_set]; exact hx) (by omega)]
    have hi' : i < x.length := by omega
    have hia : i < a.length := by omega
    have e1 : (x.set (i : Int).toNat (rd a (i : Int))).take (i + 1) = x.take i ++ [rd a (i : Int)] := by
      rw [show (i : Int).toNat = i from rfl, List.take_add_one, List.take_set_of_le (Nat.le_refl i), List.getElem?_set_self hi']
      rfl
    have e2 : a.drop i = rd a (i : Int) :: a.drop (i + 1) := by
      rw [List.drop_eq_getElem_cons hia]
      unfold rd
      simp [List.getD_eq_getElem?_getD, List.getElem?_eq_getElem hia]
    rw [e1, e2]
    simp
theorem toIntS_is (a : List Int) (hn : a.length ≤ 35184372088832) (k : Nat) (hk : a.length < k) : laws_toIntS.f k a = some a := by
  unfold laws_toIntS.f
  rw [if_pos (by omega), if_pos (by simpa using hn)]
  have := toIntS_l0 a (by omega) a.length k 0 (List.replicate a.length 0) (by omega) (by omega) (by simp) hk
  simpa using this

theorem stree_l0 (x : List Int) (hn : x.length ≤ 1048576) (d : Nat) : ∀ (k i : Nat), x.length - i = d → d < k →
    ∃ b, spec_l16Tree.l0 k x x (x.length : Int) (i : Int) = some b ∧ (b = true ↔ ((∀ j : Nat, i ≤ j → j < x.length → ((j = 0 ↔ x.getD j 0 = -1) ∧ -1 ≤ x.getD j 0 ∧ x.getD j 0 < j)) ∧ 1 ≤ x.length ∧ x.length ≤ 8)) := by
  induction d with
  | zero =>
    intro k i hd hk
    obtain ⟨k, rfl⟩ : ∃ m, k = m + 1 := ⟨k - 1, by omega⟩
    simp only [spec_l16Tree.l0, in_eq, Option.bind_some]
    rw [if_neg (by omega)]
    refine ⟨_, rfl, ?_⟩
    rw [decide_eq_true_eq]
    constructor
    · intro h; exact ⟨fun j h1 h2 => by omega, by omega, by omega⟩
    · intro h; omega
  | succ d ih =>
    intro k i hd hk
    obtain ⟨k, rfl⟩ : ∃ m, k = m + 1 := ⟨k - 1, by omega⟩
    obtain ⟨b, hb, hi⟩ := ih k (i + 1) (by omega) (by omega)
    simp only [spec_l16Tree.l0]
    rw [if_pos (by omega), if_pos (by omega), if_pos (by omega), wrap_succ (n := x.length) (by omega) (by omega), show rd x (i : Int) = x.getD i 0 from rfl]
    by_cases h1 : (i = 0 ↔ x.getD i 0 = -1)
    · rw [if_neg (by
        have : (((i : Int) == 0) = (x.getD i 0 == -1)) := by
          rw [Bool.eq_iff_iff, beq_iff_eq, beq_iff_eq, ← h1]; omega
        rw [this]; simp)]
      by_cases h2 : x.getD i 0 < -1
      · rw [if_pos h2]
        refine ⟨_, rfl, by simp, fun h => ?_⟩
        have := h.1 i (Nat.le_refl _) (by omega)
        omega
      · rw [if_neg h2]
        by_cases h3 : x.getD i 0 ≥ i
        · rw [if_pos h3]
          refine ⟨_, rfl, by simp, fun h => ?_⟩
          have := h.1 i (Nat.le_refl _) (by omega)
          omega
        · rw [if_neg h3]
          refine ⟨b, hb, hi.trans ⟨fun h => ⟨fun j j1 j2 => ?_, h.2⟩, fun h => ⟨fun j j1 j2 => h.1 j (by omega) j2, h.2⟩⟩⟩
          by_cases e : j = i
          · subst e; exact ⟨h1, by omega, by omega⟩
          · exact h.1 j (by omega) j2
    · rw [if_pos (by
        rw [bne_iff_ne]
        intro h
        rw [Bool.eq_iff_iff, beq_iff_eq, beq_iff_eq] at h
        exact h1 ⟨fun e => h.1 (by omega), fun e => by have := h.2 e; omega⟩)]
      exact ⟨_, rfl, by simp, fun h => absurd (h.1 i (Nat.le_refl _) (by omega)).1 h1⟩
theorem itree_l0 (x : List Int) (hn : x.length ≤ 1048576) (d : Nat) : ∀ (k i : Nat), x.length - i = d → d < k →
    ∃ b, impl_isTree.l0 k x (x.length : Int) (i : Int) = some b ∧ (b = true ↔ (∀ j : Nat, i ≤ j → j < x.length → 0 < j → (0 ≤ x.getD j 0 ∧ x.getD j 0 < j))) := by
  induction d with
  | zero =>
    intro k i hd hk
    obtain ⟨k, rfl⟩ : ∃ m, k = m + 1 := ⟨k - 1, by omega⟩
    simp only [impl_isTree.l0]
    rw [if_neg (by omega)]
    exact ⟨_, rfl, by simp; intro j h1 h2; omega⟩
  | succ d ih =>
    intro k i hd hk
    obtain ⟨k, rfl⟩ : ∃ m, k = m + 1 := ⟨k - 1, by omega⟩
    obtain ⟨b, hb, hi⟩ := ih k (i + 1) (by omega) (by omega)
    simp only [impl_isTree.l0, within_eq, Option.bind_some]
    rw [if_pos (by omega), if_pos (by omega), if_pos (by omega), wrap_succ (n := x.length) (by omega) (by omega), show rd x (i : Int) = x.getD i 0 from rfl, wrap_in (x := (i : Int) - 1) (by omega) (by omega)]
    by_cases h0 : (i : Int) > 0
    · rw [if_pos h0]
      by_cases h1 : 0 ≤ x.getD i 0 ∧ x.getD i 0 ≤ (i : Int) - 1
      · rw [if_pos (by simpa using h1)]
        refine ⟨b, hb, hi.trans ⟨fun h j j1 j2 j3 => ?_, fun h j j1 j2 j3 => h j (by omega) j2 j3⟩⟩
        by_cases e : j = i
        · subst e; exact ⟨h1.1, by omega⟩
        · exact h j (by omega) j2 j3
      · rw [if_neg (by simpa using h1)]
        exact ⟨_, rfl, by simp, fun h => absurd (h i (Nat.le_refl _) (by omega) (by omega)) (fun h2 => h1 ⟨h2.1, by omega⟩)⟩
    · rw [if_neg h0]
      refine ⟨b, hb, hi.trans ⟨fun h j j1 j2 j3 => h j (by omega) j2 j3, fun h j j1 j2 j3 => h j (by omega) j2 j3⟩⟩
def IsTree (x : List Int) : Prop := 1 ≤ x.length ∧ x.length ≤ 8 ∧ x.getD 0 0 = -1 ∧ ∀ j : Nat, j < x.length → 0 < j → (0 ≤ x.getD j 0 ∧ x.getD j 0 < j)
theorem stree_is (x : List Int) (hn : x.length ≤ 1048576) (k : Nat) (hk : x.length < k) : ∃ b, spec_l16Tree.f k x = some b ∧ (b = true ↔ IsTree x) := by
  obtain ⟨b, hb, hi⟩ := stree_l0 x hn x.length k 0 (by omega) hk
  refine ⟨b, hb, hi.trans ⟨fun h => ⟨h.2.1, h.2.2, (h.1 0 (by omega) (by omega)).1.1 rfl, fun j j1 j2 => ?_⟩, fun h => ⟨fun j _ j1 => ?_, h.1, h.2.1⟩⟩⟩
  · have := h.1 j (by omega) j1
    have h3 : ¬ x.getD j 0 = -1 := fun e => by have := this.1.2 e; omega
    omega
  · by_cases e : j = 0
    · subst e; have := h.2.2.1; exact ⟨⟨fun _ => this, fun _ => rfl⟩, by omega, by omega⟩
    · have := h.2.2.2 j j1 (by omega)
      exact ⟨⟨fun h => absurd h e, fun h => by omega⟩, by omega, by omega⟩
theorem itree_is (x : List Int) (hn : x.length ≤ 1048576) (k : Nat) (hk : x.length + 1 < k) : ∃ b, impl_isTree.f k x = some b ∧ (b = true ↔ IsTree x) := by
  obtain ⟨k, rfl⟩ : ∃ m, k = m + 1 := ⟨k - 1, by omega⟩
  obtain ⟨b, hb, hi⟩ := itree_l0 x hn x.length k 0 (by omega) (by omega)
  unfold impl_isTree.f
  simp only [within_eq, Option.bind_some]
  by_cases h : 1 ≤ x.length ∧ x.length ≤ 8
  · rw [if_pos (by rw [decide_eq_true_eq]; omega), if_pos (by omega)]
    simp only [impl_isTree.j0]
    rw [show rd x 0 = x.getD 0 0 from rfl]
    by_cases h0 : x.getD 0 0 = -1
    · rw [if_neg (by rw [h0]; decide)]
      exact ⟨b, hb, hi.trans ⟨fun g => ⟨h.1, h.2, h0, fun j j1 j2 => g j (by omega) j1 j2⟩, fun g j _ j1 j2 => g.2.2.2 j j1 j2⟩⟩
    · rw [if_pos (by rw [bne_iff_ne]; exact h0)]
      exact ⟨_, rfl, by simp, fun g => absurd g.2.2.1 h0⟩
  · rw [if_neg (by rw [decide_eq_true_eq]; omega)]
    simp only [impl_isTree.j0, if_true]
    exact ⟨_, rfl, by simp, fun g => absurd ⟨g.1, g.2.1⟩ h⟩
theorem children_l0 (x : List Int) (n : Int) (hn : x.length ≤ 1048576) (h0 : x.getD 0 0 ≠ n) (d : Nat) : ∀ (i : Nat) (acc : List Int), x.length - i = d → acc.length + d ≤ 1048576 →
    ∃ r : List Int, r.length ≤ acc.length + d ∧ ∀ k, d < k → spec_l16Children.l0 k n acc x (x.length : Int) (i : Int) = some r ∧ impl_children.l0 k n acc x (x.length : Int) (i : Int) = some r := by
  induction d with
  | zero =>
    intro i acc hd hb
    refine ⟨acc, by omega, fun k hk => ?_⟩
    obtain ⟨k, rfl⟩ : ∃ m, k = m + 1 := ⟨k - 1, by omega⟩
    simp only [spec_l16Children.l0, impl_children.l0]
    rw [if_neg (by omega), if_neg (by omega)]
    exact ⟨rfl, rfl⟩
  | succ d ih =>
    intro i acc hd hb
    by_cases h1 : x.getD i 0 = n
    · have hi : 0 < i := by
        rcases Nat.eq_zero_or_pos i with h | h
        · subst h; exact absurd h1 h0
        · exact h
      obtain ⟨r, c, ab⟩ := ih (i + 1) (acc ++ [(i : Int)]) (by omega) (by simp; omega)
      rw [List.length_append, List.length_singleton] at c
      refine ⟨r, by omega, fun k hk => ?_⟩
      obtain ⟨k, rfl⟩ : ∃ m, k = m + 1 := ⟨k - 1, by omega⟩
      obtain ⟨a, b⟩ := ab k (by omega)
      simp only [spec_l16Children.l0, impl_children.l0]
      rw [if_pos (show (i : Int) < (x.length : Int) by omega), if_pos (show (0 : Int) ≤ (i : Int) by omega), if_pos (show (i : Int) < (x.length : Int) by omega), wrap_succ (n := x.length) (by omega) (by omega), show rd x (i : Int) = x.getD i 0 from rfl,
        if_pos (show (i : Int) > 0 by omega), if_pos h1, if_pos (show acc.length < 17592186044416 by omega), if_pos (show (i : Int) < (x.length : Int) by omega), if_pos (show (0 : Int) ≤ (i : Int) by omega), if_pos (show (i : Int) < (x.length : Int) by omega), if_pos h1, if_pos (show acc.length < 17592186044416 by omega)]
      exact ⟨a, b⟩
    · obtain ⟨r, c, ab⟩ := ih (i + 1) acc (by omega) (by omega)
      refine ⟨r, by omega, fun k hk => ?_⟩
      obtain ⟨k, rfl⟩ : ∃ m, k = m + 1 := ⟨k - 1, by omega⟩
      obtain ⟨a, b⟩ := ab k (by omega)
      simp only [spec_l16Children.l0, impl_children.l0]
      rw [if_pos (show (i : Int) < (x.length : Int) by omega), if_pos (show (0 : Int) ≤ (i : Int) by omega), if_pos (show (i : Int) < (x.length : Int) by omega), wrap_succ (n := x.length) (by omega) (by omega), show rd x (i : Int) = x.getD i 0 from rfl,
        if_neg h1, ite_self, if_pos (show (i : Int) < (x.length : Int) by omega), if_pos (show (0 : Int) ≤ (i : Int) by omega), if_pos (show (i : Int) < (x.length : Int) by omega), if_neg h1]
      exact ⟨a, b⟩

theorem childrenOf_both (x : List Int) (n : Int) (hn : x.length ≤ 1048576) (hw : (Lit.int .i64 n).wf = true) :
    ∃ (l : List Int) (b : Bool), l.length ≤ 8 ∧ ∀ k, 1048578 < k → spec_ChildrenOf.f k x n = some (l, b) ∧ impl_ChildrenOf.f k x n = some (l, b) := by
  have S := fun k hk => stree_is x hn k hk
  have I := fun k hk => itree_is x hn k hk
  by_cases hT : IsTree x
  · have S' : ∀ k, x.length < k → spec_l16Tree.f k x = some true := fun k hk => by obtain ⟨b, hb, hi⟩ := S k hk; rw [hb, hi.2 hT]
    have I' : ∀ k, x.length + 1 < k → impl_isTree.f k x = some true := fun k hk => by obtain ⟨b, hb, hi⟩ := I k hk; rw [hb, hi.2 hT]
    have hT8 := hT.2.1
    by_cases h1 : 0 ≤ n ∧ n < x.length
    · obtain ⟨r, g, ab⟩ := children_l0 x n hn (by have := hT.2.2.1; omega) x.length 0 [] (by omega) (by simp; omega)
      refine ⟨r, true, by simp at g; omega, fun k hk => ?_⟩
      obtain ⟨a, b⟩ := ab k (by omega)
      unfold spec_ChildrenOf.f impl_ChildrenOf.f spec_l16Children.f impl_children.f
      rw [S' k (by omega), I' k (by omega)]
      simp only [Option.bind_some, within_eq, if_true]
      rw [if_neg (show ¬ n < 0 by omega), if_neg (show ¬ n ≥ x.length by omega), wrap_in (x := (x.length : Int) - 1) (by omega) (by omega), if_pos (by rw [decide_eq_true_eq]; omega), show (0 : Int) = ((0 : Nat) : Int) from rfl, a, b]
      exact ⟨rfl, rfl⟩
    · refine ⟨[], false, by simp, fun k hk => ?_⟩
      unfold spec_ChildrenOf.f impl_ChildrenOf.f
      rw [S' k (by omega), I' k (by omega)]
      simp only [Option.bind_some, within_eq, if_true]
      rw [wrap_in (x := (x.length : Int) - 1) (by omega) (by omega), if_neg (show ¬ (decide (0 ≤ n ∧ n ≤ (x.length : Int) - 1) = true) by rw [decide_eq_true_eq]; omega)]
      by_cases h2 : n < 0
      · rw [if_pos h2]; exact ⟨rfl, rfl⟩
      · rw [if_neg h2, if_pos (show n ≥ x.length by omega)]; exact ⟨rfl, rfl⟩
  · refine ⟨[], false, by simp, fun k hk => ?_⟩
    obtain ⟨b, hb, hi⟩ := S k (by omega)
    obtain ⟨b', hb', hi'⟩ := I k (by omega)
    unfold spec_ChildrenOf.f impl_ChildrenOf.f
    rw [hb, hb']
    simp only [Option.bind_some]
    rw [if_neg (fun h => hT (hi.1 h)), if_neg (fun h => hT (hi'.1 h))]
    exact ⟨rfl, rfl⟩
theorem FnExactChildrenOf : laws_FnExactChildrenOf.Stmt := by
  intro x n _ hw
  refine ⟨1048600, ?_⟩
  unfold laws_FnExactChildrenOf.f
  by_cases h : (x.length : Int) > 1048576
  · rw [if_pos h]
  · rw [if_neg h]
    have hn : x.length ≤ 1048576 := by omega
    obtain ⟨l, b, hl, hb⟩ := childrenOf_both x n hn hw
    rw [toIntS_is x (by omega) _ (by omega)]
    simp only [Option.bind_some]
    rw [(hb _ (by omega)).1, (hb _ (by omega)).2]
    simp only [Option.bind_some]
    rw [eqIntS_same l (by omega) _ (by omega)]
    simp only [Option.bind_some, if_true, bne_self_eq_false, laws_FnExactChildrenOf.j0]
    rw [if_neg (by decide), toIntS_is x (by omega) _ (by omega)]
    simp only [Option.bind_some]
    rw [eqIntS_same x (by omega) _ (by omega)]
    simp only [Option.bind_some, if_true]
    rw [markIntS_is x 1 _ (by omega) (by omega) (by omega) (by omega)]
    simp only [Option.bind_some]
    rw [if_neg (by omega), eqIntS_same l (by omega) _ (by omega)]
    simp only [Option.bind_some, if_true, bne_self_eq_false, laws_FnExactChildrenOf.j1]
    rw [if_neg (by decide), markIntS_is l 1 _ (by omega) (by omega) (by omega) (by omega)]
    simp only [Option.bind_some]
    rw [heldIntS_is l.length 1 _ (by omega) (by omega) (by omega) (by omega)]
    simp only [Option.bind_some]
    rw [if_neg (by omega), if_pos trivial]
    rw [toIntS_is x (by omega) _ (by omega)]
    simp only [Option.bind_some]
    rw [(hb _ (by omega)).2]
    simp only [Option.bind_some]
    rw [eqIntS_same l (by omega) _ (by omega)]
    simp only [Option.bind_some, if_true, bne_self_eq_false, laws_FnExactChildrenOf.j2]
    rw [if_neg (by decide), heldIntS_is l.length 1 _ (by omega) (by omega) (by omega) (by omega)]
    simp only [Option.bind_some]
    rw [if_neg (by omega), if_pos trivial]

end Go.Proofs.Ytpnfmbdiffjinaa.Pure
