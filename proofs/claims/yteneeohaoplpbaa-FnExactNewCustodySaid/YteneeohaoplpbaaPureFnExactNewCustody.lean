/- The program's NewCustody returns what the reference's returns, for all rows of numbers; it writes into none and its lists are new memory. -/
import Derived.Test.YteneeohaoplpbaaXFnExactNewCustodyx7
set_option linter.unusedVariables false
set_option linter.unusedSimpArgs false
namespace Go.Proofs.Yteneeohaoplpbaa.Pure
open Go.RowKit Go.Proofs.Yteneeohaoplpbaa.XFnExactNewCustody Go.Proofs.YteneeohaoplpbaaW.PrintWords Go.Proofs.YteneeohaoplpbaaW.PrintLast Go.Proofs.YteneeohaoplpbaaW.PrintMore

/-- What is to be shown of FnExactNewCustody, in numbers and lists alone. -/
def laws_FnExactNewCustody.Stmt : Prop := ∀ (l0 : List Int), (l0.length ≤ maxLen ∧ ∀ x ∈ l0, (Lit.int .i64 x).wf = true) → ∃ k, laws_FnExactNewCustody.f k l0 = some true

theorem wrap_in {x : Int} (h0 : -9223372036854775808 ≤ x) (h1 : x ≤ 9223372036854775807) : wrap64 x = x := by
  unfold wrap64
  omega
theorem wrap_succ {i n : Nat} (h : i < n) (hn : n ≤ 9223372036854775807) : wrap64 ((i : Int) + 1) = ((i + 1 : Nat) : Int) := by
  rw [wrap_in (by omega) (by omega)]
  omega

theorem in_eq (a b c : Int) : spec_l1In.f a b c = some (decide (b ≤ a ∧ a ≤ c)) := by
  unfold spec_l1In.f
  by_cases h : b ≤ a <;> simp [h]
theorem within_eq (a b c : Int) : impl_within.f a b c = some (decide (b ≤ a ∧ a ≤ c)) := by
  unfold impl_within.f
  by_cases h : b ≤ a <;> simp [h]

theorem stree_l0 (x : List Int) (hn : x.length ≤ 1048576) (d : Nat) : ∀ (k i : Nat), x.length - i = d → d < k →
    ∃ b, spec_l16Tree.l0 k x x (x.length : Int) (i : Int) = some b ∧ (b = true ↔ ((∀ j : Nat, i ≤ j → j < x.length → ((j = 0 ↔ x.getD j 0 = -1) ∧ -1 ≤ x.getD j 0 ∧ x.getD j 0 < j)) ∧ 1 ≤ x.length ∧ x.length ≤ 8)) := by
  induction d with
  | zero =>
    intro k i hd hk
    obtain ⟨k, rfl⟩ : ∃ m, k = m + 1 := ⟨k - 1, by omega⟩
    simp only [spec_l16Tree.l0, in_eq, Option.bind_some]
    rw [if_neg (by omega)]
    refine ⟨_, rfl, ?_⟩
    rw [decide_eq_true_eq]
    constructor
    · intro h; exact ⟨fun j h1 h2 => by omega, by omega, by omega⟩
    · intro h; omega
  | succ d ih =>
    intro k i hd hk
    obtain ⟨k, rfl⟩ : ∃ m, k = m + 1 := ⟨k - 1, by omega⟩
    obtain ⟨b, hb, hi⟩ := ih k (i + 1) (by omega) (by omega)
    simp only [spec_l16Tree.l0]
    rw [if_pos (by omega), if_pos (by omega), if_pos (by omega), wrap_succ (n := x.length) (by omega) (by omega), show rd x (i : Int) = x.getD i 0 from rfl]
    by_cases h1 : (i = 0 ↔ x.getD i 0 = -1)
    · rw [if_neg (by
        have : (((i : Int) == 0) = (x.getD i 0 == -1)) := by
          rw [Bool.eq_iff_iff, beq_iff_eq, beq_iff_eq, ← h1]; omega
        rw [this]; simp)]
      by_cases h2 : x.getD i 0 < -1
      · rw [if_pos h2]
        refine ⟨_, rfl, by simp, fun h => ?_⟩
        have := h.1 i (Nat.le_refl _) (by omega)
        omega
      · rw [if_neg h2]
        by_cases h3 : x.getD i 0 ≥ i
        · rw [if_pos h3]
          refine ⟨_, rfl, by simp, fun h => ?_⟩
          have := h.1 i (Nat.le_refl _) (by omega)
          omega
        · rw [if_neg h3]
          refine ⟨b, hb, hi.trans ⟨fun h => ⟨fun j j1 j2 => ?_, h.2⟩, fun h => ⟨fun j j1 j2 => h.1 j (by omega) j2, h.2⟩⟩⟩
          by_cases e : j = i
          · subst e; exact ⟨h1, by omega, by omega⟩
          · exact h.1 j (by omega) j2
    · rw [if_pos (by
        rw [bne_iff_ne]
        intro h
        rw [Bool.eq_iff_iff, beq_iff_eq, beq_iff_eq] at h
        exact h1 ⟨fun e => h.1 (by omega), fun e => by have := h.2 e; omega⟩)]
      exact ⟨_, rfl, by simp, fun h => absurd (h.1 i (Nat.le_refl _) (by omega)).1 h1⟩
theorem itree_l0 (x : List Int) (hn : x.length ≤ 1048576) (d : Nat) : ∀ (k i : Nat), x.length - i = d → d < k →
    ∃ b, impl_isTree.l0 k x (x.length : Int) (i : Int) = some b ∧ (b = true ↔ (∀ j : Nat, i ≤ j → j < x.length → 0 < j → (0 ≤ x.getD j 0 ∧ x.getD j 0 < j))) := by
  induction d with
  | zero =>
    intro k i hd hk
    obtain ⟨k, rfl⟩ : ∃ m, k = m + 1 := ⟨k - 1, by omega⟩
    simp only [impl_isTree.l0]
    rw [if_neg (by omega)]
    exact ⟨_, rfl, by simp; intro j h1 h2; omega⟩
  | succ d ih =>
    intro k i hd hk
    obtain ⟨k, rfl⟩ : ∃ m, k = m + 1 := ⟨k - 1, by omega⟩
    obtain ⟨b, hb, hi⟩ := ih k (i + 1) (by omega) (by omega)
    simp only [impl_isTree.l0, within_eq, Option.bind_some]
    rw [if_pos (by omega), if_pos (by omega), if_pos (by omega), wrap_succ (n := x.length) (by omega) (by omega), show rd x (i : Int) = x.getD i 0 from rfl, wrap_in (x := (i : Int) - 1) (by omega) (by omega)]
    by_cases h0 : (i : Int) > 0
    · rw [if_pos h0]
      by_cases h1 : 0 ≤ x.getD i 0 ∧ x.getD i 0 ≤ (i : Int) - 1
      · rw [if_pos (by simpa using h1)]
        refine ⟨b, hb, hi.trans ⟨fun h j j1 j2 j3 => ?_, fun h j j1 j2 j3 => h j (by omega) j2 j3⟩⟩
        by_cases e : j = i
        · subst e; exact ⟨h1.1, by omega⟩
        · exact h j (by omega) j2 j3
      · rw [if_neg (by simpa using h1)]
        exact ⟨_, rfl, by simp, fun h => absurd (h i (Nat.le_refl _) (by omega) (by omega)) (fun h2 => h1 ⟨h2.1, by omega⟩)⟩
    · rw [if_neg h0]
      refine ⟨b, hb, hi.trans ⟨fun h j j1 j2 j3 => h j (by omega) j2 j3, fun h j j1 j2 j3 => h j (by omega) j2 j3⟩⟩
def IsTree (x : List Int) : Prop := 1 ≤ x.length ∧ x.length ≤ 8 ∧ x.getD 0 0 = -1 ∧ ∀ j : Nat, j < x.length → 0 < j → (0 ≤ x.getD j 0 ∧ x.getD j 0 < j)
theorem stree_is (x : List Int) (hn : x.length ≤ 1048576) (k : Nat) (hk : x.length < k) : ∃ b, spec_l16Tree.f k x = some b ∧ (b = true ↔ IsTree x) := by
  obtain ⟨b, hb, hi⟩ := stree_l0 x hn x.length k 0 (by omega) hk
  refine ⟨b, hb, hi.trans ⟨fun h => ⟨h.2.1, h.2.2, (h.1 0 (by omega) (by omega)).1.1 rfl, fun j j1 j2 => ?_⟩, fun h => ⟨fun j _ j1 => ?_, h.1, h.2.1⟩⟩⟩
  · have := h.1 j (by omega) j1
    have h3 : ¬ x.getD j 0 = -1 := fun e => by have := this.1.2 e; omega
    omega
  · by_cases e : j = 0
    · subst e; have := h.2.2.1; exact ⟨⟨fun _ => this, fun _ => rfl⟩, by omega, by omega⟩
    · have := h.2.2.2 j j1 (by omega)
      exact ⟨⟨fun h => absurd h e, fun h => by omega⟩, by omega, by omega⟩
theorem itree_is (x : List Int) (hn : x.length ≤ 1048576) (k : Nat) (hk : x.length + 1 < k) : ∃ b, impl_isTree.f k x = some b ∧ (b = true ↔ IsTree x) := by
  obtain ⟨k, rfl⟩ : ∃ m, k = m + 1 := ⟨k - 1, by omega⟩
  obtain ⟨b, hb, hi⟩ := itree_l0 x hn x.length k 0 (by omega) (by omega)
  unfold impl_isTree.f
  simp only [within_eq, Option.bind_some]
  by_cases h : 1 ≤ x.length ∧ x.length ≤ 8
  · rw [if_pos (by rw [decide_eq_true_eq]; omega), if_pos (by omega)]
    simp only [impl_isTree.j0]
    rw [show rd x 0 = x.getD 0 0 from rfl]
    by_cases h0 : x.getD 0 0 = -1
    · rw [if_neg (by rw [h0]; decide)]
      exact ⟨b, hb, hi.trans ⟨fun g => ⟨h.1, h.2, h0, fun j j1 j2 => g j (by omega) j1 j2⟩, fun g j _ j1 j2 => g.2.2.2 j j1 j2⟩⟩
    · rw [if_pos (by rw [bne_iff_ne]; exact h0)]
      exact ⟨_, rfl, by simp, fun g => absurd g.2.2.1 h0⟩
  · rw [if_neg (by rw [decide_eq_true_eq]; omega)]
    simp only [impl_isTree.j0, if_true]
    exact ⟨_, rfl, by simp, fun g => absurd ⟨g.1, g.2.1⟩ h⟩

theorem toIntS_l0 (a : List Int) (hn : a.length ≤ 9223372036854775807) (d : Nat) : ∀ (k i : Nat) (x : List Int), a.length - i = d → i ≤ a.length → x.length = a.length → d < k → laws_toIntS.l0 k a x (i : Int) = some (x.take i ++ a.drop i) := by
  induction d with
  | zero =>
    intro k i x hd hi hx hk
    obtain ⟨k, rfl⟩ : ∃ m, k = m + 1 := ⟨k - 1, by omega⟩
    simp only [laws_toIntS.l0]
    rw [if_neg (by omega), List.take_of_length_le (by omega), List.drop_of_length_le (by omega), List.append_nil]
  | succ d ih =>
    intro k i x hd hi hx hk
    obtain ⟨k, rfl⟩ : ∃ m, k = m + 1 := ⟨k - 1, by omega⟩
    simp only [laws_toIntS.l0]
    rw [if_pos (by omega), if_pos (by omega), if_pos (by omega), wrap_succ (n := a.length) (by omega) hn, ih k (i + 1) _ (by omega) (by omega) (by rw [List.length_set]; exact hx) (by omega)]
    have hi' : i < x.length := by omega
    have hia : i < a.length := by omega
    have e1 : (x.set (i : Int).toNat (rd a (i : Int))).take (i + 1) = x.take i ++ [rd a (i : Int)] := by
      rw [show (i : Int).toNat = i from rfl, List.take_add_one, List.take_set_of_le (Nat.le_refl i), List.getElem?_set_self hi']
      rfl
    have e2 : a.drop i = rd a (i : Int) :: a.drop (i + 1) := by
      rw [List.drop_eq_getElem_cons hia]
      unfold rd
      simp [List.getD_eq_getElem?_getD, List.getElem?_eq_getElem hia]
    rw [e1, e2]
    simp
theorem toIntS_is (a : List Int) (hn : a.length ≤ 35184372088832) (k : Nat) (hk : a.length < k) : laws_toIntS.f k a = some a := by
  unfold laws_toIntS.f
  rw [if_pos (by omega), if_pos (by simpa using hn)]
  have := toIntS_l0 a (by omega) a.length k 0 (List.replicate a.length 0) (by omega) (by omega) (by simp) hk
  simpa using this

theorem eqIntS_l0 (a : List Int) (hn : a.length ≤ 9223372036854775807) (d : Nat) : ∀ (k i : Nat), a.length - i = d → d < k → laws_eqIntS.l0 k a a (i : Int) = some true := by
  induction d with
  | zero =>
    intro k i hd hk
    obtain ⟨k, rfl⟩ : ∃ m, k = m + 1 := ⟨k - 1, by omega⟩
    simp only [laws_eqIntS.l0]
    rw [if_neg (by omega)]
  | succ d ih =>
    intro k i hd hk
    obtain ⟨k, rfl⟩ : ∃ m, k = m + 1 := ⟨k - 1, by omega⟩
    simp only [laws_eqIntS.l0]
    rw [if_pos (by omega), if_pos (by omega), if_pos (by omega), if_pos trivial, wrap_succ (n := a.length) (by omega) hn]
    exact ih k (i + 1) (by omega) (by omega)
theorem eqIntS_same (a : List Int) (hn : a.length ≤ 9223372036854775807) (k : Nat) (hk : a.length < k) : laws_eqIntS.f k a a = some true := by
  unfold laws_eqIntS.f
  rw [if_pos rfl]
  exact eqIntS_l0 a hn a.length k 0 (by omega) hk

theorem markIntS_l0 (d : Nat) : ∀ (k i : Nat) (x : List Int) (m : Int), x.length ≤ 9223372036854775807 → x.length - i = d → i ≤ x.length → d < k → 0 ≤ m → m + d ≤ 9223372036854775807 →
    laws_markIntS.l0 k x m (i : Int) = some (m + d, x.take i ++ (List.range d).map (fun j : Nat => m + j)) := by
  induction d with
  | zero =>
    intro k i x m hn hd hi hk h0 h1
    obtain ⟨k, rfl⟩ : ∃ m, k = m + 1 := ⟨k - 1, by omega⟩
    simp only [laws_markIntS.l0]
    rw [if_neg (by omega), List.take_of_length_le (by omega)]
    simp
  | succ d ih =>
    intro k i x m hn hd hi hk h0 h1
    obtain ⟨k, rfl⟩ : ∃ m, k = m + 1 := ⟨k - 1, by omega⟩
    simp only [laws_markIntS.l0]
    rw [if_pos (by omega), if_pos (by omega), wrap_succ (n := x.length) (by omega) hn, wrap_in (by omega) (by omega),
      ih k (i + 1) (x.set (i : Int).toNat m) (m + 1) (by simpa using hn) (by rw [List.length_set]; omega) (by rw [List.length_set]; omega) (by omega) (by omega) (by omega)]
    have hi' : i < x.length := by omega
    have e1 : (x.set i m).take (i + 1) = x.take i ++ [m] := by
      rw [List.take_add_one, List.take_set_of_le (Nat.le_refl i), List.getElem?_set_self hi']
      rfl
    rw [show (i : Int).toNat = i from rfl, e1, List.range_succ_eq_map, List.map_cons, List.map_map]
    simp only [List.append_assoc, List.cons_append, List.nil_append]
    congr 1
    refine Prod.ext (by simp; omega) ?_
    simp only [Function.comp_def]
    congr 1
    congr 1
    · simp
    · exact List.map_congr_left fun j _ => by simp; omega
theorem markIntS_is (x : List Int) (m : Int) (k : Nat) (hn : x.length ≤ 1000000000000) (hk : x.length < k) (h0 : 0 ≤ m) (h1 : m ≤ 1000000000000000) :
    laws_markIntS.f k x m = some (m + x.length, (List.range x.length).map (fun j : Nat => m + j)) := by
  unfold laws_markIntS.f
  have := markIntS_l0 x.length k 0 x m (by omega) (by omega) (by omega) hk h0 (by omega)
  simpa using this

theorem heldIntS_l0 (d : Nat) : ∀ (k i : Nat) (x : List Int) (m : Int), x.length ≤ 9223372036854775807 → x.length - i = d → i ≤ x.length → d < k → 0 ≤ m → m + d ≤ 9223372036854775807 →
    (∀ j : Nat, j < d → x.getD (i + j) 0 = m + j) → laws_heldIntS.l0 k x m (i : Int) = some (m + d) := by
  induction d with
  | zero =>
    intro k i x m hn hd hi hk h0 h1 hx
    obtain ⟨k, rfl⟩ : ∃ m, k = m + 1 := ⟨k - 1, by omega⟩
    simp only [laws_heldIntS.l0]
    rw [if_neg (by omega)]
    simp
  | succ d ih =>
    intro k i x m hn hd hi hk h0 h1 hx
    obtain ⟨k, rfl⟩ : ∃ m, k = m + 1 := ⟨k - 1, by omega⟩
    simp only [laws_heldIntS.l0]
    have e := hx 0 (by omega)
    rw [if_pos (by omega), if_pos (by omega), if_pos (by unfold rd; simpa using e), wrap_succ (n := x.length) (by omega) hn, wrap_in (by omega) (by omega),
      ih k (i + 1) x (m + 1) hn (by omega) (by omega) (by omega) (by omega) (by omega) (fun j hj => by have := hx (j + 1) (by omega); rw [show i + 1 + j = i + (j + 1) by omega, this]; omega)]
    congr 1
    omega
theorem heldIntS_is (n : Nat) (m : Int) (k : Nat) (hn : n ≤ 1000000000000) (hk : n < k) (h0 : 0 ≤ m) (h1 : m ≤ 1000000000000000) :
    laws_heldIntS.f k ((List.range n).map (fun j : Nat => m + j)) m = some (m + n) := by
  unfold laws_heldIntS.f
  have := heldIntS_l0 n k 0 ((List.range n).map (fun j : Nat => m + j)) m (by simp; omega) (by simp) (by simp) hk h0 (by omega) (fun j hj => by
    simp [List.getD_eq_getElem?_getD, List.getElem?_range hj])
  simpa using this

/-! Keepers that hold nothing: marked, held, the same. -/
theorem rd_rep179 (n i : Nat) (h : i < n) : rd_T179 (List.replicate n z179) (i : Int) = z179 := by
  unfold rd_T179
  rw [show ((i : Int)).toNat = i from rfl, List.getD_eq_getElem?_getD, List.getElem?_replicate, if_pos h]
  rfl
theorem eqHold_nil (k : Nat) : laws_eqHoldS.f (k + 1) [] [] = some true := by
  unfold laws_eqHoldS.f
  rw [if_pos rfl, laws_eqHoldS.l0, if_neg (by simp)]
theorem eqSlip_nil (k : Nat) : laws_eqSlipS.f (k + 1) [] [] = some true := by
  unfold laws_eqSlipS.f
  rw [if_pos rfl, laws_eqSlipS.l0, if_neg (by simp)]
theorem heldHold_nil (k : Nat) (m : Int) : laws_heldHoldS.f (k + 1) [] m = some m := by
  unfold laws_heldHoldS.f
  rw [laws_heldHoldS.l0, if_neg (by simp)]
theorem heldSlip_nil (k : Nat) (m : Int) : laws_heldSlipS.f (k + 1) [] m = some m := by
  unfold laws_heldSlipS.f
  rw [laws_heldSlipS.l0, if_neg (by simp)]
theorem heldInt_nil (k : Nat) (m : Int) (h0 : 0 ≤ m) (h1 : m ≤ 1000000000000000) : laws_heldIntS.f (k + 1) [] m = some m := by
  have := heldIntS_is 0 m (k + 1) (by omega) (by omega) h0 h1
  simpa using this
theorem eqK_l0 (n : Nat) (hn : n ≤ 1048576) (d : Nat) : ∀ (k i : Nat), n - i = d → d + 5 < k → laws_eqKeeperS.l0 k (List.replicate n z179) (List.replicate n z179) (i : Int) = some true := by
  have hl : (List.replicate n z179).length = n := List.length_replicate
  induction d with
  | zero =>
    intro k i hd hk
    obtain ⟨k, rfl⟩ : ∃ m, k = m + 1 := ⟨k - 1, by omega⟩
    rw [laws_eqKeeperS.l0, if_neg (by omega)]
  | succ d ih =>
    intro k i hd hk
    obtain ⟨k, rfl⟩ : ∃ m, k = m + 1 + 1 := ⟨k - 2, by omega⟩
    rw [laws_eqKeeperS.l0, if_pos (by omega), if_pos (by omega), if_pos (by omega), rd_rep179 n i (by omega)]
    unfold laws_eqKeeper.f
    rw [show z179.f0 = [] from rfl, show z179.f1 = [] from rfl, show z179.f2 = [] from rfl, eqIntS_same [] (by simp) _ (by simp), Option.bind_some, if_pos rfl, eqHold_nil, Option.bind_some, if_pos rfl, Option.bind_some, if_pos rfl, Option.bind_some, if_pos rfl, wrap_succ (n := n) (by omega) (by omega)]
    exact ih (k + 1) (i + 1) (by omega) (by omega)
theorem heldK_l0 (n : Nat) (hn : n ≤ 1048576) (m : Int) (h0 : 0 ≤ m) (h1 : m ≤ 1000000000000000) (d : Nat) : ∀ (k i : Nat), n - i = d → d + 5 < k → laws_heldKeeperS.l0 k (List.replicate n z179) m (i : Int) = some m := by
  have hl : (List.replicate n z179).length = n := List.length_replicate
  induction d with
  | zero =>
    intro k i hd hk
    obtain ⟨k, rfl⟩ : ∃ m, k = m + 1 := ⟨k - 1, by omega⟩
    rw [laws_heldKeeperS.l0, if_neg (by omega)]
  | succ d ih =>
    intro k i hd hk
    obtain ⟨k, rfl⟩ : ∃ m, k = m + 1 + 1 := ⟨k - 2, by omega⟩
    rw [laws_heldKeeperS.l0, if_pos (by omega), if_pos (by omega), rd_rep179 n i (by omega), show z179.f0 = [] from rfl, show z179.f1 = [] from rfl, show z179.f2 = [] from rfl, heldInt_nil k m h0 h1, Option.bind_some, if_neg (by omega), heldHold_nil, Option.bind_some, if_neg (by omega), heldInt_nil k m h0 h1, Option.bind_some, if_neg (by omega), wrap_succ (n := n) (by omega) (by omega)]
    exact ih (k + 1) (i + 1) (by omega) (by omega)
theorem markK_l0 (n : Nat) (hn : n ≤ 1048576) (m : Int) (d : Nat) : ∀ (k i : Nat), n - i = d → d + 5 < k → laws_markKeeperS.l0 k (List.replicate n z179) m (i : Int) = some m := by
  have hl : (List.replicate n z179).length = n := List.length_replicate
  induction d with
  | zero =>
    intro k i hd hk
    obtain ⟨k, rfl⟩ : ∃ m, k = m + 1 := ⟨k - 1, by omega⟩
    rw [laws_markKeeperS.l0, if_neg (by omega)]
  | succ d ih =>
    intro k i hd hk
    obtain ⟨k, rfl⟩ : ∃ m, k = m + 1 := ⟨k - 1, by omega⟩
    rw [laws_markKeeperS.l0, if_pos (by omega), if_pos (by omega), rd_rep179 n i (by omega), if_pos (by rfl), wrap_succ (n := n) (by omega) (by omega)]
    exact ih k (i + 1) (by omega) (by omega)
theorem new_is (x : List Int) (hn : x.length ≤ 1048576) : ∃ (U : List Int) (n : Nat) (ok : Bool), U.length ≤ 1048576 ∧ n ≤ 8 ∧ ∀ k, 1048600 ≤ k → spec_NewCustody.f k x = some (U, List.replicate n z179, [], [], ok) ∧ impl_NewCustody.f k x = some (U, List.replicate n z179, [], [], ok) := by
  by_cases hT : IsTree x
  · have h8 := hT.2.1
    refine ⟨x, x.length, true, hn, h8, fun k hk => ?_⟩
    obtain ⟨b, hb, hi⟩ := stree_is x hn k (by omega)
    obtain ⟨b', hb', hi'⟩ := itree_is x hn k (by omega)
    constructor
    · unfold spec_NewCustody.f
      rw [hb, hi.2 hT, Option.bind_some, if_pos rfl, Option.bind_some, if_pos (by simp; omega), if_pos (by omega), if_pos (by omega)]
      rfl
    · unfold impl_NewCustody.f slices_Clone_int_int.f
      rw [hb', hi'.2 hT, Option.bind_some, if_pos rfl, Option.bind_some, if_pos (by simp; omega), Option.bind_some, if_pos (by omega), if_pos (by omega)]
      rfl
  · refine ⟨[], 0, false, by simp, by omega, fun k hk => ?_⟩
    obtain ⟨b, hb, hi⟩ := stree_is x hn k (by omega)
    obtain ⟨b', hb', hi'⟩ := itree_is x hn k (by omega)
    constructor
    · unfold spec_NewCustody.f
      rw [hb, Option.bind_some, if_neg (fun h => hT (hi.1 h))]
      rfl
    · unfold impl_NewCustody.f
      rw [hb', Option.bind_some, if_neg (fun h => hT (hi'.1 h))]
      rfl
theorem FnExactNewCustody : laws_FnExactNewCustody.Stmt := by
  intro x _
  refine ⟨1048700, ?_⟩
  unfold laws_FnExactNewCustody.f
  by_cases h : (x.length : Int) > 1048576
  · rw [if_pos h]
  · rw [if_neg h]
    have hn : x.length ≤ 1048576 := by omega
    obtain ⟨U, n, ok, hU, h8, e⟩ := new_is x hn
    have q1 := eqK_l0 n (by omega) n 1048700 0 (by omega) (by omega)
    have q2 := heldK_l0 n (by omega) (1 + (U.length : Int)) (by omega) (by omega) n 1048700 0 (by omega) (by omega)
    have q3 := markK_l0 n (by omega) (1 + (U.length : Int)) n 1048700 0 (by omega) (by omega)
    rw [show ((0 : Nat) : Int) = 0 from rfl] at q1 q2 q3
    have p1 : laws_eqKeeperS.f 1048700 (List.replicate n z179) (List.replicate n z179) = some true := by
      unfold laws_eqKeeperS.f
      rw [if_pos rfl, q1]
    have p2 : laws_heldKeeperS.f 1048700 (List.replicate n z179) (1 + (U.length : Int)) = some (1 + (U.length : Int)) := q2
    have p3 : laws_markKeeperS.f 1048700 (List.replicate n z179) (1 + (U.length : Int)) = some (1 + (U.length : Int)) := q3
    have eq1 : laws_eqCustody.f 1048700 U (List.replicate n z179) [] [] U (List.replicate n z179) [] [] = some true := by
      unfold laws_eqCustody.f
      rw [eqIntS_same U (by omega) _ (by omega), Option.bind_some, if_pos rfl, p1, Option.bind_some, if_pos rfl, show (1048700 : Nat) = 1048699 + 1 from rfl, eqSlip_nil, Option.bind_some, if_pos rfl, eqIntS_same [] (by simp) _ (by simp), Option.bind_some, if_pos rfl]
    have mk1 : laws_markCustody.f 1048700 U (List.replicate n z179) 1 = some (1 + (U.length : Int), (List.range U.length).map (fun j : Nat => (1 : Int) + j)) := by
      unfold laws_markCustody.f
      rw [markIntS_is U 1 _ (by omega) (by omega) (by omega) (by omega), Option.bind_some, p3]
      rfl
    have hd1 : laws_heldCustody.f 1048700 ((List.range U.length).map (fun j : Nat => (1 : Int) + j)) (List.replicate n z179) [] [] 1 = some (1 + (U.length : Int)) := by
      unfold laws_heldCustody.f
      rw [heldIntS_is U.length 1 _ (by omega) (by omega) (by omega) (by omega), Option.bind_some, if_neg (by omega), p2, Option.bind_some, if_neg (by omega), show (1048700 : Nat) = 1048699 + 1 from rfl, heldSlip_nil, Option.bind_some, if_neg (by omega), heldInt_nil _ _ (by omega) (by omega), Option.bind_some, if_neg (by omega)]
    have ne : (ok != ok) = false := by simp
    rw [toIntS_is x (by omega) _ (by omega), Option.bind_some, (e _ (by omega)).1, Option.bind_some, (e _ (by omega)).2, Option.bind_some]
    dsimp only
    rw [if_pos (by rfl), eq1, Option.bind_some, if_pos rfl, ne, if_neg Bool.false_ne_true, eqIntS_same x (by omega) _ (by omega), Option.bind_some, if_pos rfl, markIntS_is x 1 _ (by omega) (by omega) (by omega) (by omega), Option.bind_some]
    dsimp only
    rw [if_neg (by omega), mk1, Option.bind_some]
    dsimp only
    rw [hd1, Option.bind_some, if_pos rfl, if_neg (by omega)]

end Go.Proofs.Yteneeohaoplpbaa.Pure
