/- The program's RunRounds returns what the reference's returns, for all arguments. -/
import Derived.Test.YteneeohaoplpbaaXFnExactRunRoundsx10
set_option linter.unusedVariables false
set_option linter.unusedSimpArgs false
namespace Go.Proofs.Yteneeohaoplpbaa.Pure
open Go.RowKit Go.Proofs.Yteneeohaoplpbaa.XFnExactRunRounds Go.Proofs.YteneeohaoplpbaaW.PrintWords Go.Proofs.YteneeohaoplpbaaW.PrintLast Go.Proofs.YteneeohaoplpbaaW.PrintMore

/-- What is to be shown of FnExactRunRounds, in numbers and lists alone. -/
def laws_FnExactRunRounds.Stmt : Prop := ∀ (a0_0 : Int) (l0_1 : List (S167)) (a0_2 : Int) (a1 : Int), (((Lit.int .i64 a0_0).wf = true) ∧ (l0_1.length ≤ maxLen ∧ ∀ x ∈ l0_1, (x.f0.length ≤ maxLen ∧ ∀ x' ∈ x.f0, (Lit.int .i64 x').wf = true) ∧ ((Lit.int .i64 x.f1).wf = true) ∧ ((Lit.int .i64 x.f2).wf = true)) ∧ ((Lit.int .i64 a0_2).wf = true)) → ((Lit.int .i64 a1).wf = true) → ∃ k, laws_FnExactRunRounds.f k a0_0 l0_1 a0_2 a1 = some true

theorem wrap_in {x : Int} (h0 : -9223372036854775808 ≤ x) (h1 : x ≤ 9223372036854775807) : wrap64 x = x := by
  unfold wrap64
  omega
theorem wrap_succ {i n : Nat} (h : i < n) (hn : n ≤ 9223372036854775807) : wrap64 ((i : Int) + 1) = ((i + 1 : Nat) : Int) := by
  rw [wrap_in (by omega) (by omega)]
  omega

theorem eqIntS_l0 (a : List Int) (hn : a.length ≤ 9223372036854775807) (d : Nat) : ∀ (k i : Nat), a.length - i = d → d < k → laws_eqIntS.l0 k a a (i : Int) = some true := by
  induction d with
  | zero =>
    intro k i hd hk
    obtain ⟨k, rfl⟩ : ∃ m, k = m + 1 := ⟨k - 1, by omega⟩
    simp only [laws_eqIntS.l0]
    rw [if_neg (by omega)]
  | succ d ih =>
    intro k i hd hk
    obtain ⟨k, rfl⟩ : ∃ m, k = m + 1 := ⟨k - 1, by omega⟩
    simp only [laws_eqIntS.l0]
    rw [if_pos (by omega), if_pos (by omega), if_pos (by omega), if_pos trivial, wrap_succ (n := a.length) (by omega) hn]
    exact ih k (i + 1) (by omega) (by omega)
theorem eqIntS_same (a : List Int) (hn : a.length ≤ 9223372036854775807) (k : Nat) (hk : a.length < k) : laws_eqIntS.f k a a = some true := by
  unfold laws_eqIntS.f
  rw [if_pos rfl]
  exact eqIntS_l0 a hn a.length k 0 (by omega) hk

theorem toIntS_l0 (a : List Int) (hn : a.length ≤ 9223372036854775807) (d : Nat) : ∀ (k i : Nat) (x : List Int), a.length - i = d → i ≤ a.length → x.length = a.length → d < k → laws_toIntS.l0 k a x (i : Int) = some (x.take i ++ a.drop i) := by
  induction d with
  | zero =>
    intro k i x hd hi hx hk
    obtain ⟨k, rfl⟩ : ∃ m, k = m + 1 := ⟨k - 1, by omega⟩
    simp only [laws_toIntS.l0]
    rw [if_neg (by omega), List.take_of_length_le (by omega), List.drop_of_length_le (by omega), List.append_nil]
  | succ d ih =>
    intro k i x hd hi hx hk
    obtain ⟨k, rfl⟩ : ∃ m, k = m + 1 := ⟨k - 1, by omega⟩
    simp only [laws_toIntS.l0]
    rw [if_pos (by omega), if_pos (by omega), if_pos (by omega), wrap_succ (n := a.length) (by omega) hn, ih k (i + 1) _ (by omega) (by omega) (by rw [List.length_set]; exact hx) (by omega)]
    have hi' : i < x.length := by omega
    have hia : i < a.length := by omega
    have e1 : (x.set (i : Int).toNat (rd a (i : Int))).take (i + 1) = x.take i ++ [rd a (i : Int)] := by
      rw [show (i : Int).toNat = i from rfl, List.take_add_one, List.take_set_of_le (Nat.le_refl i), List.getElem?_set_self hi']
      rfl
    have e2 : a.drop i = rd a (i : Int) :: a.drop (i + 1) := by
      rw [List.drop_eq_getElem_cons hia]
      unfold rd
      simp [List.getD_eq_getElem?_getD, List.getElem?_eq_getElem hia]
    rw [e1, e2]
    simp
theorem toIntS_is (a : List Int) (hn : a.length ≤ 35184372088832) (k : Nat) (hk : a.length < k) : laws_toIntS.f k a = some a := by
  unfold laws_toIntS.f
  rw [if_pos (by omega), if_pos (by simpa using hn)]
  have := toIntS_l0 a (by omega) a.length k 0 (List.replicate a.length 0) (by omega) (by omega) (by simp) hk
  simpa using this

theorem rd110_mem (l : List S116) (i : Nat) (h : i < l.length) : rd_T116 l (i : Int) ∈ l := by
  unfold rd_T116
  rw [show (i : Int).toNat = i from rfl, List.getD_eq_getElem?_getD, List.getElem?_eq_getElem h]
  exact List.getElem_mem h
theorem drop110 (l : List S116) (i : Nat) (h : i < l.length) : l.drop i = rd_T116 l (i : Int) :: l.drop (i + 1) := by
  rw [List.drop_eq_getElem_cons h]
  unfold rd_T116
  simp [List.getD_eq_getElem?_getD, List.getElem?_eq_getElem h]
theorem rd166_mem (l : List S167) (i : Nat) (h : i < l.length) : rd_T167 l (i : Int) ∈ l := by
  unfold rd_T167
  rw [show (i : Int).toNat = i from rfl, List.getD_eq_getElem?_getD, List.getElem?_eq_getElem h]
  exact List.getElem_mem h
theorem drop166 (l : List S167) (i : Nat) (h : i < l.length) : l.drop i = rd_T167 l (i : Int) :: l.drop (i + 1) := by
  rw [List.drop_eq_getElem_cons h]
  unfold rd_T167
  simp [List.getD_eq_getElem?_getD, List.getElem?_eq_getElem h]
theorem dropInt (l : List Int) (i : Nat) (h : i < l.length) : l.drop i = rd l (i : Int) :: l.drop (i + 1) := by
  rw [List.drop_eq_getElem_cons h]
  unfold rd
  simp [List.getD_eq_getElem?_getD, List.getElem?_eq_getElem h]
/-- The copy of a row of queues. -/
def conv (q : S167) : S116 := ⟨q.f0, q.f1, q.f2⟩
theorem szInt_is (l : List Int) (m : Int) (h : l.length ≤ maxLen) (hm : 0 ≤ m) (hm1 : m ≤ 1048576) : ∃ r : Int, laws_szIntS.f l m = some r ∧ (r < 0 ∨ ((l.length : Int) ≤ m ∧ r = m - l.length)) := by
  have h0 : l.length ≤ 9223372036854775807 := Nat.le_trans h (by decide)
  unfold laws_szIntS.f
  rw [wrap_in (by omega) (by omega)]
  by_cases c : m - (l.length : Int) < 0
  · rw [if_pos c]
    exact ⟨_, rfl, Or.inl (by omega)⟩
  · rw [if_neg c]
    exact ⟨_, rfl, Or.inr ⟨by omega, rfl⟩⟩
theorem szQueue_is (l : List Int) (b c m : Int) (h : l.length ≤ maxLen) (hm : 0 ≤ m) (hm1 : m ≤ 1048576) : ∃ r : Int, laws_szQueue.f l b c m = some r ∧ (r < 0 ∨ ((l.length : Int) ≤ m ∧ r = m - l.length)) := by
  obtain ⟨r, e, hr⟩ := szInt_is l m h hm hm1
  unfold laws_szQueue.f
  rw [e]
  simp only [Option.bind_some]
  by_cases c : r < 0
  · rw [if_pos c]
    exact ⟨_, rfl, Or.inl (by omega)⟩
  · rw [if_neg c]
    exact ⟨_, rfl, hr⟩
theorem szQueueS_l0 (l : List S167) (hl : ∀ q ∈ l, q.f0.length ≤ maxLen) (hn : l.length ≤ 1048576) (d : Nat) : ∀ (i : Nat) (m : Int), l.length - i = d → 0 ≤ m → m ≤ 1048576 →
    ∃ r : Int, (r < 0 ∨ ∀ q ∈ l.drop i, (q.f0.length : Int) ≤ m) ∧ ∀ k, d < k → laws_szQueueS.l0 k l m (i : Int) = some r := by
  induction d with
  | zero =>
    intro i m hd h0 h1
    refine ⟨m, Or.inr ?_, fun k hk => ?_⟩
    · rw [List.drop_of_length_le (by omega)]
      intro q hq
      cases hq
    · obtain ⟨k, rfl⟩ : ∃ m, k = m + 1 := ⟨k - 1, by omega⟩
      simp only [laws_szQueueS.l0]
      rw [if_neg (by omega)]
  | succ d ih =>
    intro i m hd h0 h1
    have hi : i < l.length := by omega
    obtain ⟨r, e, hr⟩ := szQueue_is (rd_T167 l (i : Int)).f0 (rd_T167 l (i : Int)).f1 (rd_T167 l (i : Int)).f2 m (hl _ (rd166_mem l i hi)) h0 h1
    by_cases c : r < 0
    · refine ⟨-1, Or.inl (by omega), fun k hk => ?_⟩
      obtain ⟨k, rfl⟩ : ∃ m, k = m + 1 := ⟨k - 1, by omega⟩
      simp only [laws_szQueueS.l0]
      rw [if_pos (by omega), if_pos (by omega), e]
      simp only [Option.bind_some]
      rw [if_pos c]
    · obtain ⟨r2, hr2, h2⟩ := ih (i + 1) r (by omega) (by omega) (by omega)
      refine ⟨r2, ?_, fun k hk => ?_⟩
      · rcases hr2 with h | h
        · exact Or.inl h
        · refine Or.inr ?_
          rw [drop166 l i hi]
          intro q hq
          rcases List.mem_cons.mp hq with rfl | hq
          · omega
          · have := h q hq
            omega
      · obtain ⟨k, rfl⟩ : ∃ m, k = m + 1 := ⟨k - 1, by omega⟩
        simp only [laws_szQueueS.l0]
        rw [if_pos (by omega), if_pos (by omega), e]
        simp only [Option.bind_some]
        rw [if_neg c, wrap_succ (n := l.length) (by omega) (by omega)]
        exact h2 k (by omega)
theorem szTurns_is (a : Int) (l : List S167) (t : Int) (h : l.length ≤ maxLen) (hl : ∀ q ∈ l, q.f0.length ≤ maxLen) :
    ∃ r : Int, (r < 0 ∨ (l.length ≤ 1048576 ∧ ∀ q ∈ l, q.f0.length ≤ 1048576)) ∧ ∀ k, 1048577 < k → laws_szTurns.f k a l t 1048576 = some r := by
  have h0 : l.length ≤ 9223372036854775807 := Nat.le_trans h (by decide)
  unfold laws_szTurns.f laws_szQueueS.f
  rw [wrap_in (by omega) (by omega)]
  by_cases c : 1048576 - (l.length : Int) < 0
  · refine ⟨-1, Or.inl (by omega), fun k _ => ?_⟩
    rw [if_pos c]
    simp only [Option.bind_some]
    rw [if_pos (by omega)]
  · obtain ⟨r, hr, e⟩ := szQueueS_l0 l hl (by omega) l.length 0 (1048576 - (l.length : Int)) (by omega) (by omega) (by omega)
    by_cases c2 : r < 0
    · refine ⟨-1, Or.inl (by omega), fun k hk => ?_⟩
      rw [if_neg c, show (0 : Int) = ((0 : Nat) : Int) from rfl, e k (by omega)]
      simp only [Option.bind_some]
      rw [if_pos (by omega)]
    · refine ⟨r, Or.inr ⟨by omega, fun q hq => ?_⟩, fun k hk => ?_⟩
      · rcases hr with h | h
        · exact absurd h c2
        · have := h q (by simpa using hq)
          omega
      · rw [if_neg c, show (0 : Int) = ((0 : Nat) : Int) from rfl, e k (by omega)]
        simp only [Option.bind_some]
        rw [if_neg (by omega)]
theorem toQueue_is (l : List Int) (b c : Int) (h : l.length ≤ 1048576) (k : Nat) (hk : 1048576 < k) : laws_toQueue.f k l b c = some (l, b, c) := by
  unfold laws_toQueue.f
  rw [toIntS_is l (by omega) k (by omega)]
  rfl
theorem toQueueS_l0 (a : List S167) (hn : a.length ≤ 1048576) (hl : ∀ q ∈ a, q.f0.length ≤ 1048576) (d : Nat) : ∀ (k i : Nat) (x : List S116), a.length - i = d → i ≤ a.length → x.length = a.length → 1048576 + d < k → laws_toQueueS.l0 k a x (i : Int) = some (x.take i ++ (a.drop i).map conv) := by
  induction d with
  | zero =>
    intro k i x hd hi hx hk
    obtain ⟨k, rfl⟩ : ∃ m, k = m + 1 := ⟨k - 1, by omega⟩
    simp only [laws_toQueueS.l0]
    rw [if_neg (by omega), List.take_of_length_le (by omega), List.drop_of_length_le (by omega), List.map_nil, List.append_nil]
  | succ d ih =>
    intro k i x hd hi hx hk
    have hia : i < a.length := by omega
    obtain ⟨k, rfl⟩ : ∃ m, k = m + 1 := ⟨k - 1, by omega⟩
    simp only [laws_toQueueS.l0]
    rw [if_pos (by omega), if_pos (by omega), toQueue_is _ _ _ (hl _ (rd166_mem a i hia)) k (by omega)]
    simp only [Option.bind_some]
    rw [if_pos (by omega), wrap_succ (n := a.length) (by omega) (by omega), ih k (i + 1) _ (by omega) (by omega) (by rw [List.length_set]; exact hx) (by omega)]
    have hi' : i < x.length := by omega
    have e1 : ∀ v, (x.set (i : Int).toNat v).take (i + 1) = x.take i ++ [v] := fun v => by
      rw [show (i : Int).toNat = i from rfl, List.take_add_one, List.take_set_of_le (Nat.le_refl i), List.getElem?_set_self hi']
      rfl
    rw [e1, drop166 a i hia]
    simp [conv]
theorem toTurns_is (a : Int) (l : List S167) (t : Int) (hn : l.length ≤ 1048576) (hl : ∀ q ∈ l, q.f0.length ≤ 1048576) (k : Nat) (hk : 2097152 < k) : laws_toTurns.f k a l t = some (a, l.map conv, t) := by
  unfold laws_toTurns.f laws_toQueueS.f
  rw [if_pos (by omega), if_pos (by omega)]
  have := toQueueS_l0 l hn hl l.length k 0 (List.replicate l.length z116) (by omega) (by omega) (by simp) (by omega)
  rw [show ((l.length : Int)).toNat = l.length from rfl, show (0 : Int) = ((0 : Nat) : Int) from rfl, this]
  simp
theorem eqQueueS_l0 (a : List S116) (hn : a.length ≤ 1048576) (hl : ∀ q ∈ a, q.f0.length ≤ 1048576) (d : Nat) : ∀ (k i : Nat), a.length - i = d → 1048576 + d < k → laws_eqQueueS.l0 k a a (i : Int) = some true := by
  induction d with
  | zero =>
    intro k i hd hk
    obtain ⟨k, rfl⟩ : ∃ m, k = m + 1 := ⟨k - 1, by omega⟩
    simp only [laws_eqQueueS.l0]
    rw [if_neg (by omega)]
  | succ d ih =>
    intro k i hd hk
    obtain ⟨k, rfl⟩ : ∃ m, k = m + 1 := ⟨k - 1, by omega⟩
    have hm := hl _ (rd110_mem a i (by omega))
    simp only [laws_eqQueueS.l0]
    unfold laws_eqQueue.f
    rw [if_pos (by omega), if_pos (by omega), if_pos (by omega), eqIntS_same _ (by omega) k (by omega)]
    simp only [Option.bind_some, if_true]
    rw [wrap_succ (n := a.length) (by omega) (by omega)]
    exact ih k (i + 1) (by omega) (by omega)
theorem eqTurns_same (a : Int) (l : List S116) (t : Int) (hn : l.length ≤ 1048576) (hl : ∀ q ∈ l, q.f0.length ≤ 1048576) (k : Nat) (hk : 2097152 < k) : laws_eqTurns.f k a l t a l t = some true := by
  unfold laws_eqTurns.f laws_eqQueueS.f
  rw [if_pos rfl, if_pos rfl, show (0 : Int) = ((0 : Nat) : Int) from rfl, eqQueueS_l0 l hn hl l.length k 0 (by omega) (by omega)]
  simp only [Option.bind_some, if_true]
theorem sin_is (a b c : Int) : spec_l1In.f a b c = some (decide (b ≤ a ∧ a ≤ c)) := by
  unfold spec_l1In.f
  by_cases h : a ≥ b
  · have h' : b ≤ a := h
    simp [h']
  · have h' : ¬ b ≤ a := h
    simp [h']
theorem iin_is (a b c : Int) : impl_within.f a b c = some (decide (b ≤ a ∧ a ≤ c)) := by
  unfold impl_within.f
  by_cases h : b ≤ a <;> simp [h]
theorem itime_is (a : Int) : impl_isTime.f a = some (decide (0 ≤ a ∧ a ≤ 1000000)) := by
  unfold impl_isTime.f
  rw [iin_is]
  rfl
def GQ (q : S116) : Prop := (∀ x ∈ q.f0, 1 ≤ x ∧ x ≤ 50) ∧ q.f0.length ≤ 40 ∧ (0 ≤ q.f1 ∧ q.f1 ≤ 100) ∧ (0 ≤ q.f2 ∧ q.f2 ≤ 1000000) ∧ (q.f0.length = 0 → q.f1 = 0)
noncomputable instance (q : S116) : Decidable (GQ q) := Classical.propDecidable _
def GT (a : Int) (l : List S116) (t : Int) : Prop := (∀ q ∈ l, GQ q) ∧ (1 ≤ a ∧ a ≤ 50) ∧ (1 ≤ (l.length : Int) ∧ (l.length : Int) ≤ 6) ∧ (0 ≤ t ∧ t ≤ 1000000)
noncomputable instance (a : Int) (l : List S116) (t : Int) : Decidable (GT a l t) := Classical.propDecidable _
theorem squeue_l0 (x : List Int) (f1 f2 : Int) (hn : x.length ≤ 1048576) (d : Nat) : ∀ (k i : Nat), x.length - i = d → i ≤ x.length → d < k →
    spec_l14Queue.l0 k x (x.length : Int) (i : Int) x f1 f2 = some (decide ((∀ y ∈ x.drop i, 1 ≤ y ∧ y ≤ 50) ∧ x.length ≤ 40 ∧ (0 ≤ f1 ∧ f1 ≤ 100) ∧ (0 ≤ f2 ∧ f2 ≤ 1000000) ∧ (x.length = 0 → f1 = 0))) := by
  induction d with
  | zero =>
    intro k i hd hi hk
    obtain ⟨k, rfl⟩ : ∃ m, k = m + 1 := ⟨k - 1, by omega⟩
    simp only [spec_l14Queue.l0]
    rw [if_neg (by omega), List.drop_of_length_le (by omega), sin_is, sin_is]
    simp only [Option.bind_some, decide_eq_true_eq]
    by_cases c1 : (x.length : Int) ≤ 40
    · rw [if_pos c1]
      by_cases c2 : 0 ≤ f1 ∧ f1 ≤ 100
      · rw [if_pos c2]
        by_cases c3 : 0 ≤ f2 ∧ f2 ≤ 1000000
        · rw [if_pos c3]
          by_cases c4 : (x.length : Int) > 0
          · rw [if_pos c4]
            congr 1
            refine (decide_eq_true ⟨(by simp), by omega, c2, c3, by omega⟩).symm
          · rw [if_neg c4]
            congr 1
            rw [Bool.eq_iff_iff, decide_eq_true_eq, beq_iff_eq]
            exact ⟨fun h => ⟨by simp, by omega, c2, c3, fun _ => h⟩, fun h => h.2.2.2.2 (by omega)⟩
        · rw [if_neg c3]
          congr 1
          exact (decide_eq_false fun h => c3 h.2.2.2.1).symm
      · rw [if_neg c2]
        congr 1
        exact (decide_eq_false fun h => c2 h.2.2.1).symm
    · rw [if_neg c1]
      congr 1
      exact (decide_eq_false fun h => c1 (by omega)).symm
  | succ d ih =>
    intro k i hd hi hk
    obtain ⟨k, rfl⟩ : ∃ m, k = m + 1 := ⟨k - 1, by omega⟩
    simp only [spec_l14Queue.l0]
    rw [if_pos (by omega), if_pos (by omega), if_pos (by omega), sin_is, wrap_succ (n := x.length) (by omega) (by omega), ih k (i + 1) (by omega) (by omega) (by omega)]
    simp only [Option.bind_some, decide_eq_true_eq]
    rw [dropInt x i (by omega)]
    by_cases c : 1 ≤ rd x (i : Int) ∧ rd x (i : Int) ≤ 50
    · rw [if_pos c]
      simp only [List.forall_mem_cons, c, true_and, and_self]
    · rw [if_neg c]
      congr 1
      exact (decide_eq_false fun h => c (h.1 _ (List.mem_cons_self))).symm
theorem squeue_is (q : S116) (hn : q.f0.length ≤ 1048576) (k : Nat) (hk : 1048576 < k) : spec_l14Queue.f k q.f0 q.f1 q.f2 = some (decide (GQ q)) := by
  unfold spec_l14Queue.f
  rw [show (0 : Int) = ((0 : Nat) : Int) from rfl, squeue_l0 q.f0 q.f1 q.f2 hn q.f0.length k 0 (by omega) (by omega) (by omega)]
  exact congrArg some (decide_eq_decide.mpr (by rw [List.drop_zero]; exact Iff.rfl))
theorem sgood_l0 (l : List S116) (a t : Int) (hn : l.length ≤ 1048576) (hl : ∀ q ∈ l, q.f0.length ≤ 1048576) (d : Nat) : ∀ (k i : Nat), l.length - i = d → i ≤ l.length → 1048576 + d < k →
    spec_GoodTurns.l0 k l (l.length : Int) (i : Int) a l t = some (decide ((∀ q ∈ l.drop i, GQ q) ∧ (1 ≤ a ∧ a ≤ 50) ∧ (1 ≤ (l.length : Int) ∧ (l.length : Int) ≤ 6) ∧ (0 ≤ t ∧ t ≤ 1000000))) := by
  induction d with
  | zero =>
    intro k i hd hi hk
    obtain ⟨k, rfl⟩ : ∃ m, k = m + 1 := ⟨k - 1, by omega⟩
    simp only [spec_GoodTurns.l0]
    rw [if_neg (by omega), List.drop_of_length_le (by omega), sin_is, sin_is, sin_is]
    simp only [Option.bind_some, decide_eq_true_eq]
    by_cases c1 : 1 ≤ a ∧ a ≤ 50
    · rw [if_pos c1]
      by_cases c2 : 1 ≤ (l.length : Int) ∧ (l.length : Int) ≤ 6
      · rw [if_pos c2]
        congr 1
        rw [Bool.eq_iff_iff, decide_eq_true_eq, decide_eq_true_eq]
        exact ⟨fun h => ⟨by simp, c1, c2, h⟩, fun h => h.2.2.2⟩
      · rw [if_neg c2]
        congr 1
        exact (decide_eq_false fun h => c2 h.2.2.1).symm
    · rw [if_neg c1]
      congr 1
      exact (decide_eq_false fun h => c1 h.2.1).symm
  | succ d ih =>
    intro k i hd hi hk
    obtain ⟨k, rfl⟩ : ∃ m, k = m + 1 := ⟨k - 1, by omega⟩
    simp only [spec_GoodTurns.l0]
    rw [if_pos (by omega), if_pos (by omega), if_pos (by omega), squeue_is _ (hl _ (rd110_mem l i (by omega))) k (by omega), wrap_succ (n := l.length) (by omega) (by omega), ih k (i + 1) (by omega) (by omega) (by omega)]
    simp only [Option.bind_some, decide_eq_true_eq]
    rw [drop110 l i (by omega)]
    by_cases c : GQ (rd_T116 l (i : Int))
    · rw [if_pos c]
      simp only [List.forall_mem_cons, c, true_and]
    · rw [if_neg c]
      congr 1
      exact (decide_eq_false fun h => c (h.1 _ (List.mem_cons_self))).symm
theorem sgoodT_is (a : Int) (l : List S116) (t : Int) (hn : l.length ≤ 1048576) (hl : ∀ q ∈ l, q.f0.length ≤ 1048576) (k : Nat) (hk : 2097152 < k) : spec_GoodTurns.f k a l t = some (decide (GT a l t)) := by
  unfold spec_GoodTurns.f
  rw [show (0 : Int) = ((0 : Nat) : Int) from rfl, sgood_l0 l a t hn hl l.length k 0 (by omega) (by omega) (by omega)]
  exact congrArg some (decide_eq_decide.mpr (by rw [List.drop_zero]; exact Iff.rfl))
theorem ilit_is (a : Int) : impl_GoodTurns_lit1.f a = some (!decide (1 ≤ a ∧ a ≤ 50)) := by
  unfold impl_GoodTurns_lit1.f
  rw [iin_is]
  rfl
theorem idx_l0 (x : List Int) (hn : x.length ≤ 1048576) (d : Nat) : ∀ (i : Nat), x.length - i = d → i ≤ x.length →
    ∃ r : Int, (r ≥ 0 ↔ ¬ ∀ y ∈ x.drop i, 1 ≤ y ∧ y ≤ 50) ∧ ∀ k, d < k → slices_IndexFunc_int_int_impl_GoodTurns_lit1.l0 k x (x.length : Int) (i : Int) = some r := by
  induction d with
  | zero =>
    intro i hd hi
    refine ⟨-1, ?_, fun k hk => ?_⟩
    · rw [List.drop_of_length_le (by omega)]
      simp
    · obtain ⟨k, rfl⟩ : ∃ m, k = m + 1 := ⟨k - 1, by omega⟩
      simp only [slices_IndexFunc_int_int_impl_GoodTurns_lit1.l0]
      rw [if_neg (by omega)]
  | succ d ih =>
    intro i hd hi
    by_cases c : 1 ≤ rd x (i : Int) ∧ rd x (i : Int) ≤ 50
    · obtain ⟨r, hr, h2⟩ := ih (i + 1) (by omega) (by omega)
      refine ⟨r, ?_, fun k hk => ?_⟩
      · rw [hr, dropInt x i (by omega)]
        simp only [List.forall_mem_cons, c, true_and, and_self]
      · obtain ⟨k, rfl⟩ : ∃ m, k = m + 1 := ⟨k - 1, by omega⟩
        simp only [slices_IndexFunc_int_int_impl_GoodTurns_lit1.l0]
        rw [if_pos (by omega), if_pos (by omega), if_pos (by omega), ilit_is, wrap_succ (n := x.length) (by omega) (by omega)]
        simp only [Option.bind_some, c, and_self, decide_true, Bool.not_true, Bool.false_eq_true, if_false]
        exact h2 k (by omega)
    · refine ⟨(i : Int), ?_, fun k hk => ?_⟩
      · rw [dropInt x i (by omega)]
        exact ⟨fun _ h => c (h _ List.mem_cons_self), fun _ => by omega⟩
      · obtain ⟨k, rfl⟩ : ∃ m, k = m + 1 := ⟨k - 1, by omega⟩
        simp only [slices_IndexFunc_int_int_impl_GoodTurns_lit1.l0]
        rw [if_pos (by omega), if_pos (by omega), if_pos (by omega), ilit_is, decide_eq_false c]
        simp only [Option.bind_some, Bool.not_false, if_true]
theorem cont_is (x : List Int) (hn : x.length ≤ 1048576) (k : Nat) (hk : 1048576 < k) : slices_ContainsFunc_int_int_impl_GoodTurns_lit1.f k x = some (decide (¬ ∀ y ∈ x, 1 ≤ y ∧ y ≤ 50)) := by
  unfold slices_ContainsFunc_int_int_impl_GoodTurns_lit1.f slices_IndexFunc_int_int_impl_GoodTurns_lit1.f
  obtain ⟨r, hr, e⟩ := idx_l0 x hn x.length 0 (by omega) (by omega)
  rw [show (0 : Int) = ((0 : Nat) : Int) from rfl, e k (by omega)]
  simp only [Option.bind_some]
  rw [List.drop_zero] at hr
  congr 1
  rw [Bool.eq_iff_iff, decide_eq_true_eq, decide_eq_true_eq]
  exact hr
theorem igood_l0 (l : List S116) (hn : l.length ≤ 1048576) (hl : ∀ q ∈ l, q.f0.length ≤ 1048576) (d : Nat) : ∀ (k i : Nat), l.length - i = d → i ≤ l.length → 1048576 + d < k →
    impl_GoodTurns.l0 k l (l.length : Int) (i : Int) = some (decide (∀ q ∈ l.drop i, GQ q)) := by
  induction d with
  | zero =>
    intro k i hd hi hk
    obtain ⟨k, rfl⟩ : ∃ m, k = m + 1 := ⟨k - 1, by omega⟩
    simp only [impl_GoodTurns.l0]
    rw [if_neg (by omega), List.drop_of_length_le (by omega)]
    exact congrArg some (decide_eq_true (by simp)).symm
  | succ d ih =>
    intro k i hd hi hk
    obtain ⟨k, rfl⟩ : ∃ m, k = m + 1 := ⟨k - 1, by omega⟩
    have hq := hl _ (rd110_mem l i (by omega))
    simp only [impl_GoodTurns.l0]
    rw [if_pos (by omega), if_pos (by omega), if_pos (by omega), cont_is _ hq k (by omega), iin_is, itime_is, wrap_succ (n := l.length) (by omega) (by omega), ih k (i + 1) (by omega) (by omega) (by omega), drop110 l i (by omega)]
    generalize rd_T116 l (i : Int) = q at hq ⊢
    simp only [Option.bind_some, decide_eq_true_eq]
    have no : ∀ (I : Decidable (∀ y ∈ q :: l.drop (i + 1), GQ y)), ¬ GQ q → some false = some (@decide _ I) := fun I c => by
      exact congrArg some (decide_eq_false fun h => c (h _ List.mem_cons_self)).symm
    have yes : ∀ (J : Decidable (∀ y ∈ l.drop (i + 1), GQ y)) (I : Decidable (∀ y ∈ q :: l.drop (i + 1), GQ y)), GQ q → some (@decide _ J) = some (@decide _ I) := fun J I c => congrArg some (decide_eq_decide.mpr (by simp only [List.forall_mem_cons, c, true_and]))
    by_cases c1 : (q.f0.length : Int) > 40
    · rw [if_pos c1]
      exact no _ fun h => by have := h.2.1; omega
    · rw [if_neg c1]
      by_cases c2 : ∀ y ∈ q.f0, 1 ≤ y ∧ y ≤ 50
      · rw [if_neg (fun h => h c2)]
        by_cases c3 : 0 ≤ q.f1 ∧ q.f1 ≤ 100
        · rw [if_pos c3]
          by_cases c4 : 0 ≤ q.f2 ∧ q.f2 ≤ 1000000
          · rw [if_pos c4]
            by_cases c5 : (q.f0.length : Int) = 0
            · rw [if_pos c5]
              by_cases c6 : q.f1 = 0
              · rw [if_pos c6]
                exact yes _ _ ⟨c2, by omega, c3, c4, fun _ => c6⟩
              · rw [if_neg c6]
                exact no _ fun h => c6 (h.2.2.2.2 (by omega))
            · rw [if_neg c5]
              exact yes _ _ ⟨c2, by omega, c3, c4, fun h => by omega⟩
          · rw [if_neg c4]
            exact no _ fun h => c4 h.2.2.2.1
        · rw [if_neg c3]
          exact no _ fun h => c3 h.2.2.1
      · rw [if_pos c2]
        exact no _ fun h => c2 h.1
theorem igoodT_is (a : Int) (l : List S116) (t : Int) (hn : l.length ≤ 1048576) (hl : ∀ q ∈ l, q.f0.length ≤ 1048576) (k : Nat) (hk : 2097153 < k) : impl_GoodTurns.f k a l t = some (decide (GT a l t)) := by
  unfold impl_GoodTurns.f
  obtain ⟨k, rfl⟩ : ∃ m, k = m + 1 := ⟨k - 1, by omega⟩
  rw [iin_is, iin_is, itime_is]
  simp only [Option.bind_some, decide_eq_true_eq, impl_GoodTurns.j0, if_true]
  have no : ¬ GT a l t → some false = some (decide (GT a l t)) := fun c => by rw [decide_eq_false c]
  by_cases c1 : 1 ≤ a ∧ a ≤ 50
  · rw [if_pos c1]
    by_cases c2 : 1 ≤ (l.length : Int) ∧ (l.length : Int) ≤ 6
    · rw [if_pos c2]
      by_cases c3 : 0 ≤ t ∧ t ≤ 1000000
      · rw [decide_eq_true c3, if_neg (by decide), show (0 : Int) = ((0 : Nat) : Int) from rfl, igood_l0 l hn hl l.length k 0 (by omega) (by omega) (by omega), List.drop_zero]
        congr 1
        rw [Bool.eq_iff_iff, decide_eq_true_eq, decide_eq_true_eq]
        exact ⟨fun h => ⟨h, c1, c2, c3⟩, fun h => h.1⟩
      · rw [decide_eq_false c3, if_pos (by decide)]
        exact no fun h => c3 h.2.2.2
    · rw [if_neg c2]
      exact no fun h => c2 h.2.2.1
  · rw [if_neg c1]
    exact no fun h => c1 h.2.1

theorem markIntS_l0 (d : Nat) : ∀ (k i : Nat) (x : List Int) (m : Int), x.length ≤ 9223372036854775807 → x.length - i = d → i ≤ x.length → d < k → 0 ≤ m → m + d ≤ 9223372036854775807 →
    laws_markIntS.l0 k x m (i : Int) = some (m + d, x.take i ++ (List.range d).map (fun j : Nat => m + j)) := by
  induction d with
  | zero =>
    intro k i x m hn hd hi hk h0 h1
    obtain ⟨k, rfl⟩ : ∃ m, k = m + 1 := ⟨k - 1, by omega⟩
    simp only [laws_markIntS.l0]
    rw [if_neg (by omega), List.take_of_length_le (by omega)]
    simp
  | succ d ih =>
    intro k i x m hn hd hi hk h0 h1
    obtain ⟨k, rfl⟩ : ∃ m, k = m + 1 := ⟨k - 1, by omega⟩
    simp only [laws_markIntS.l0]
    rw [if_pos (by omega), if_pos (by omega), wrap_succ (n := x.length) (by omega) hn, wrap_in (by omega) (by omega),
      ih k (i + 1) (x.set (i : Int).toNat m) (m + 1) (by simpa using hn) (by rw [List.length_set]; omega) (by rw [List.length_set]; omega) (by omega) (by omega) (by omega)]
    have hi' : i < x.length := by omega
    have e1 : (x.set i m).take (i + 1) = x.take i ++ [m] := by
      rw [List.take_add_one, List.take_set_of_le (Nat.le_refl i), List.getElem?_set_self hi']
      rfl
    rw [show (i : Int).toNat = i from rfl, e1, List.range_succ_eq_map, List.map_cons, List.map_map]
    simp only [List.append_assoc, List.cons_append, List.nil_append]
    congr 1
    refine Prod.ext (by simp; omega) ?_
    simp only [Function.comp_def]
    congr 1
    congr 1
    · simp
    · exact List.map_congr_left fun j _ => by simp; omega
theorem markIntS_is (x : List Int) (m : Int) (k : Nat) (hn : x.length ≤ 1000000000000) (hk : x.length < k) (h0 : 0 ≤ m) (h1 : m ≤ 1000000000000000) :
    laws_markIntS.f k x m = some (m + x.length, (List.range x.length).map (fun j : Nat => m + j)) := by
  unfold laws_markIntS.f
  have := markIntS_l0 x.length k 0 x m (by omega) (by omega) (by omega) hk h0 (by omega)
  simpa using this

theorem heldIntS_l0 (d : Nat) : ∀ (k i : Nat) (x : List Int) (m : Int), x.length ≤ 9223372036854775807 → x.length - i = d → i ≤ x.length → d < k → 0 ≤ m → m + d ≤ 9223372036854775807 →
    (∀ j : Nat, j < d → x.getD (i + j) 0 = m + j) → laws_heldIntS.l0 k x m (i : Int) = some (m + d) := by
  induction d with
  | zero =>
    intro k i x m hn hd hi hk h0 h1 hx
    obtain ⟨k, rfl⟩ : ∃ m, k = m + 1 := ⟨k - 1, by omega⟩
    simp only [laws_heldIntS.l0]
    rw [if_neg (by omega)]
    simp
  | succ d ih =>
    intro k i x m hn hd hi hk h0 h1 hx
    obtain ⟨k, rfl⟩ : ∃ m, k = m + 1 := ⟨k - 1, by omega⟩
    simp only [laws_heldIntS.l0]
    have e := hx 0 (by omega)
    rw [if_pos (by omega), if_pos (by omega), if_pos (by unfold rd; simpa using e), wrap_succ (n := x.length) (by omega) hn, wrap_in (by omega) (by omega),
      ih k (i + 1) x (m + 1) hn (by omega) (by omega) (by omega) (by omega) (by omega) (fun j hj => by have := hx (j + 1) (by omega); rw [show i + 1 + j = i + (j + 1) by omega, this]; omega)]
    congr 1
    omega
theorem heldIntS_is (n : Nat) (m : Int) (k : Nat) (hn : n ≤ 1000000000000) (hk : n < k) (h0 : 0 ≤ m) (h1 : m ≤ 1000000000000000) :
    laws_heldIntS.f k ((List.range n).map (fun j : Nat => m + j)) m = some (m + n) := by
  unfold laws_heldIntS.f
  have := heldIntS_l0 n k 0 ((List.range n).map (fun j : Nat => m + j)) m (by simp; omega) (by simp) (by simp) hk h0 (by omega) (fun j hj => by
    simp [List.getD_eq_getElem?_getD, List.getElem?_range hj])
  simpa using this

/-! Rows of queues: marked, held, the same. -/
theorem rd61_mem (l : List S116) (i : Nat) (h : i < l.length) : rd_T116 l (i : Int) ∈ l := by
  unfold rd_T116
  rw [show ((i : Int)).toNat = i from rfl, List.getD_eq_getElem?_getD, List.getElem?_eq_getElem h]
  exact List.getElem_mem h
theorem drop61 (l : List S116) (i : Nat) (h : i < l.length) : l.drop i = rd_T116 l (i : Int) :: l.drop (i + 1) := by
  rw [List.drop_eq_getElem_cons h]
  unfold rd_T116
  simp [List.getD_eq_getElem?_getD, List.getElem?_eq_getElem h]
def tot : List S116 → Nat
  | [] => 0
  | c :: cs => c.f0.length + 2 + tot cs
def mkd : Int → List S116 → List S116
  | _, [] => []
  | m, c :: cs => ⟨(List.range c.f0.length).map (fun j : Nat => m + j), m + c.f0.length, m + c.f0.length + 1⟩ :: mkd (m + c.f0.length + 2) cs
theorem eqQ_l0 (x : List S116) (hn : x.length ≤ 1048576) (hx : ∀ c ∈ x, c.f0.length ≤ 1048576) (d : Nat) : ∀ (k i : Nat), x.length - i = d → 1048577 + d < k → laws_eqQueueS.l0 k x x (i : Int) = some true := by
  induction d with
  | zero =>
    intro k i hd hk
    obtain ⟨k, rfl⟩ : ∃ m, k = m + 1 := ⟨k - 1, by omega⟩
    rw [laws_eqQueueS.l0, if_neg (by omega)]
  | succ d ih =>
    intro k i hd hk
    obtain ⟨k, rfl⟩ : ∃ m, k = m + 1 := ⟨k - 1, by omega⟩
    have := hx _ (rd61_mem x i (by omega))
    rw [laws_eqQueueS.l0, if_pos (by omega), if_pos (by omega), if_pos (by omega)]
    unfold laws_eqQueue.f
    rw [eqIntS_same _ (by omega) k (by omega), Option.bind_some, if_pos rfl, if_pos rfl, if_pos rfl, Option.bind_some, if_pos rfl, wrap_succ (n := x.length) (by omega) (by omega)]
    exact ih k (i + 1) (by omega) (by omega)
theorem eqQ_same (x : List S116) (hn : x.length ≤ 1048576) (hx : ∀ c ∈ x, c.f0.length ≤ 1048576) (k : Nat) (hk : 2097154 < k) : laws_eqQueueS.f k x x = some true := by
  unfold laws_eqQueueS.f
  rw [if_pos rfl]
  exact eqQ_l0 x hn hx x.length k 0 (by omega) (by omega)
theorem markQ_l0 (d : Nat) : ∀ (k i : Nat) (x : List S116) (m : Int), x.length ≤ 1048576 → (∀ c ∈ x, c.f0.length ≤ 1048576) → x.length - i = d → i ≤ x.length → 1048577 + d < k → 0 ≤ m → m + tot (x.drop i) ≤ 1000000000000000 → laws_markQueueS.l0 k x m (i : Int) = some (m + tot (x.drop i), x.take i ++ mkd m (x.drop i)) := by
  induction d with
  | zero =>
    intro k i x m hn hx hd hi hk h0 h1
    obtain ⟨k, rfl⟩ : ∃ m, k = m + 1 := ⟨k - 1, by omega⟩
    rw [laws_markQueueS.l0, if_neg (by omega), List.drop_of_length_le (by omega), List.take_of_length_le (by omega)]
    simp [tot, mkd]
  | succ d ih =>
    intro k i x m hn hx hd hi hk h0 h1
    obtain ⟨k, rfl⟩ : ∃ m, k = m + 1 := ⟨k - 1, by omega⟩
    have hc := hx _ (rd61_mem x i (by omega))
    rw [drop61 x i (by omega), tot] at h1
    rw [laws_markQueueS.l0, if_pos (by omega), if_pos (by omega), drop61 x i (by omega), tot, mkd]
    generalize hcc : rd_T116 x (i : Int) = c at *
    rw [markIntS_is c.f0 m k (by omega) (by omega) h0 (by omega), Option.bind_some]
    dsimp only
    rw [wrap_in (x := m + (c.f0.length : Int) + 1) (by omega) (by omega), wrap_in (x := m + (c.f0.length : Int) + 1 + 1) (by omega) (by omega), wrap_succ (n := x.length) (by omega) (by omega), show ((i : Int)).toNat = i from rfl]
    have hd2 : (x.set i (⟨(List.range c.f0.length).map (fun j : Nat => m + j), m + c.f0.length, m + c.f0.length + 1⟩ : S116)).drop (i + 1) = x.drop (i + 1) := List.drop_set_of_lt (by omega)
    have go := ih k (i + 1) (x.set i (⟨(List.range c.f0.length).map (fun j : Nat => m + j), m + c.f0.length, m + c.f0.length + 1⟩ : S116)) (m + c.f0.length + 1 + 1) (by rw [List.length_set]; exact hn) (fun y hy => by
      rcases List.mem_or_eq_of_mem_set hy with h | h
      · exact hx y h
      · rw [h]
        simpa using hc) (by rw [List.length_set]; omega) (by rw [List.length_set]; omega) (by omega) (by omega) (by rw [hd2]; omega)
    rw [go, hd2, List.take_add_one, List.take_set_of_le (Nat.le_refl i), List.getElem?_set_self (by omega), List.append_assoc]
    congr 1
    refine Prod.ext ?_ ?_
    · dsimp only
      omega
    · dsimp only
      rw [show m + (c.f0.length : Int) + 1 + 1 = m + c.f0.length + 2 by omega]
      rfl
theorem heldQ_l0 (cs : List S116) : ∀ (k i : Nat) (y : List S116) (m : Int), y.length ≤ 1048576 → (∀ c ∈ cs, c.f0.length ≤ 1048576) → y.drop i = mkd m cs → y.length = i + cs.length → 1048577 + cs.length < k → 0 ≤ m → m + tot cs ≤ 1000000000000000 → laws_heldQueueS.l0 k y m (i : Int) = some (m + tot cs) := by
  induction cs with
  | nil =>
    intro k i y m hn hx hy hl hk h0 h1
    obtain ⟨k, rfl⟩ : ∃ m, k = m + 1 := ⟨k - 1, by omega⟩
    simp only [List.length_nil] at hl
    rw [laws_heldQueueS.l0, if_neg (by omega)]
    simp [tot]
  | cons c cs ih =>
    intro k i y m hn hx hy hl hk h0 h1
    obtain ⟨k, rfl⟩ : ∃ m, k = m + 1 := ⟨k - 1, by omega⟩
    simp only [List.length_cons] at hl hk
    rw [tot] at h1 ⊢
    have hc := hx c List.mem_cons_self
    rw [drop61 y i (by omega), mkd] at hy
    injection hy with hy1 hy2
    rw [laws_heldQueueS.l0, if_pos (by omega), if_pos (by omega), hy1]
    dsimp only
    rw [heldIntS_is c.f0.length m k (by omega) (by omega) h0 (by omega), Option.bind_some, if_neg (by omega), if_pos rfl, wrap_in (x := m + (c.f0.length : Int) + 1) (by omega) (by omega), if_pos rfl, wrap_in (x := m + (c.f0.length : Int) + 1 + 1) (by omega) (by omega), wrap_succ (n := y.length) (by omega) (by omega)]
    rw [ih k (i + 1) y (m + (c.f0.length : Int) + 1 + 1) hn (fun z hz => hx z (List.mem_cons_of_mem _ hz)) (by rw [hy2, show m + (c.f0.length : Int) + 1 + 1 = m + c.f0.length + 2 by omega]) (by omega) (by omega) (by omega) (by omega)]
    congr 1
    omega
theorem mkd_len : ∀ (cs : List S116) (m : Int), (mkd m cs).length = cs.length
  | [], _ => rfl
  | c :: cs, m => by rw [mkd, List.length_cons, mkd_len cs, List.length_cons]
/-- A row marked is held. -/
theorem mark_held (x : List S116) (hn : x.length ≤ 1048576) (hx : ∀ c ∈ x, c.f0.length ≤ 1048576) (ht : tot x ≤ 100000000000000) (k : Nat) (hk : 2097154 < k) : ∃ (m : Int) (y : List S116), 0 ≤ m ∧ laws_markQueueS.f k x 1 = some (m, y) ∧ laws_heldQueueS.f k y 1 = some m := by
  have a := markQ_l0 x.length k 0 x 1 hn hx (by omega) (by omega) (by omega) (by omega) (by rw [List.drop_zero]; omega)
  rw [List.drop_zero, List.take_zero, List.nil_append] at a
  have b := heldQ_l0 x k 0 (mkd 1 x) 1 (by rw [mkd_len]; exact hn) hx (List.drop_zero) (by rw [mkd_len]; omega) (by omega) (by omega) (by omega)
  exact ⟨1 + tot x, mkd 1 x, by omega, a, b⟩

/-! PutLong: both sides give the same. -/
noncomputable def putLong (a : Int) (l : List S116) (t i x : Int) : Int × List S116 × Int × Bool :=
  if GT a l t ∧ (0 ≤ i ∧ i < (l.length : Int)) ∧ (1 ≤ x ∧ x ≤ 50) ∧ (((rd_T116 l i).f0).length : Int) ≠ 40 then (a, l.set i.toNat (⟨(rd_T116 l i).f0 ++ [x], (rd_T116 l i).f1, (rd_T116 l i).f2⟩ : S116), t, true) else (0, [], 0, false)
theorem own_l0 (l : List S116) (a t : Int) (hn : l.length ≤ 1048576) (hl : ∀ q ∈ l, q.f0.length ≤ 1048576) (d : Nat) : ∀ (k i : Nat) (x : List S116), l.length - i = d → i ≤ l.length → x.length = i → d < k →
    spec_l14Own.l0 k x l (l.length : Int) (i : Int) a l t = some (a, x ++ l.drop i, t) := by
  induction d with
  | zero =>
    intro k i x hd hi hx hk
    obtain ⟨k, rfl⟩ : ∃ m, k = m + 1 := ⟨k - 1, by omega⟩
    rw [spec_l14Own.l0, if_neg (by omega), List.drop_of_length_le (by omega), List.append_nil]
  | succ d ih =>
    intro k i x hd hi hx hk
    obtain ⟨k, rfl⟩ : ∃ m, k = m + 1 := ⟨k - 1, by omega⟩
    have := hl _ (rd110_mem l i (by omega))
    rw [spec_l14Own.l0, if_pos (by omega), if_pos (by omega), if_pos (by omega), Option.bind_some, List.nil_append, if_pos (by simp only [List.length_nil]; omega), if_pos (by omega), wrap_succ (n := l.length) (by omega) (by omega), ih k (i + 1) _ (by omega) (by omega) (by rw [List.length_append, hx]; rfl) (by omega), drop110 l i (by omega), List.append_assoc]
    rfl
theorem own_is (l : List S116) (a t : Int) (hn : l.length ≤ 1048576) (hl : ∀ q ∈ l, q.f0.length ≤ 1048576) (k : Nat) (hk : 1048576 < k) : spec_l14Own.f k a l t = some (a, l, t) := by
  unfold spec_l14Own.f
  rw [show (0 : Int) = ((0 : Nat) : Int) from rfl, own_l0 l a t hn hl l.length k 0 [] (by omega) (by omega) rfl (by omega)]
  rfl
theorem rdI_mem (l : List S116) (i : Int) (h0 : 0 ≤ i) (h1 : i < (l.length : Int)) : rd_T116 l i ∈ l := by
  obtain ⟨n, rfl⟩ : ∃ n : Nat, i = n := ⟨i.toNat, by omega⟩
  exact rd110_mem l n (by omega)
theorem copied_is (l : List S116) (a t : Int) (hn : l.length ≤ 1000000) (hl : ∀ q ∈ l, q.f0.length ≤ 1000000) : impl_Turns_copied.f a l t = some (a, l, t) := by
  unfold impl_Turns_copied.f
  rw [if_pos ⟨hn, hl⟩]
theorem tot_le (B : Nat) : ∀ l : List S116, (∀ q ∈ l, q.f0.length ≤ B) → tot l ≤ l.length * (B + 2)
  | [], _ => by simp [tot]
  | c :: cs, h => by
    have h1 := h c List.mem_cons_self
    have h2 := tot_le B cs (fun q hq => h q (List.mem_cons_of_mem _ hq))
    rw [tot, List.length_cons, Nat.succ_mul]
    omega
theorem heldT (y : List S116) (m : Int) (h0 : 0 ≤ m) (a t : Int) (k : Nat) (h : laws_heldQueueS.f k y 1 = some m) : laws_heldTurns.f k a y t 1 = some m := by
  unfold laws_heldTurns.f
  rw [h, Option.bind_some, if_neg (by omega)]
/-- A mark of a row does not hang on the fuel. -/
theorem markH2 (x : List S116) (hn : x.length ≤ 1048576) (hx : ∀ c ∈ x, c.f0.length ≤ 1048576) : ∃ (m : Int) (y : List S116), 0 ≤ m ∧ ∀ k, 2097154 < k → laws_markQueueS.f k x 1 = some (m, y) ∧ laws_heldQueueS.f k y 1 = some m := by
  have h1 := tot_le 1048576 x hx
  have h2 : x.length * (1048576 + 2) ≤ 1048576 * (1048576 + 2) := Nat.mul_le_mul_right _ hn
  refine ⟨1 + tot x, mkd 1 x, by omega, fun k hk => ?_⟩
  have a := markQ_l0 x.length k 0 x 1 hn hx (by omega) (by omega) (by omega) (by omega) (by rw [List.drop_zero]; omega)
  rw [List.drop_zero, List.take_zero, List.nil_append] at a
  have b := heldQ_l0 x k 0 (mkd 1 x) 1 (by rw [mkd_len]; exact hn) hx (List.drop_zero) (by rw [mkd_len]; omega) (by omega) (by omega) (by omega)
  exact ⟨a, b⟩

/-! One round: what a queue sends, what all do. -/
/-- What is left of the waiting words, the deficit, what was sent, and how many. -/
def sv : List Int → Int → Int → List Int × Int × Int × Nat
  | [], _, s => ([], 0, s, 0)
  | x :: xs, d, s => if x ≤ d then ((sv xs (d - x) (s + x)).1, (sv xs (d - x) (s + x)).2.1, (sv xs (d - x) (s + x)).2.2.1, (sv xs (d - x) (s + x)).2.2.2 + 1) else (x :: xs, d, s, 0)
def svQ (a : Int) (q : S116) : S116 := if q.f0 = [] then q else ⟨(sv q.f0 (q.f1 + a) q.f2).1, (sv q.f0 (q.f1 + a) q.f2).2.1, (sv q.f0 (q.f1 + a) q.f2).2.2.1⟩
def svN (a : Int) (q : S116) : Nat := if q.f0 = [] then 0 else (sv q.f0 (q.f1 + a) q.f2).2.2.2
def outs (a : Int) : Nat → List S116 → List Int
  | _, [] => []
  | i, q :: qs => List.replicate (svN a q) (i : Int) ++ outs a (i + 1) qs
theorem sv_len : ∀ (L : List Int) (d s : Int), (sv L d s).2.2.2 ≤ L.length ∧ (sv L d s).1.length ≤ L.length
  | [], _, _ => ⟨Nat.le_refl _, Nat.le_refl _⟩
  | x :: xs, d, s => by
    obtain ⟨h1, h2⟩ := sv_len xs (d - x) (s + x)
    unfold sv
    split
    · simp only [List.length_cons]
      omega
    · simp only [List.length_cons]
      omega
theorem outs_len (a : Int) : ∀ (l : List S116) (i : Nat), (∀ q ∈ l, q.f0.length ≤ 40) → (outs a i l).length ≤ 40 * l.length
  | [], _, _ => by simp [outs]
  | q :: qs, i, h => by
    have h1 := outs_len a qs (i + 1) (fun p hp => h p (List.mem_cons_of_mem _ hp))
    have h2 := h q List.mem_cons_self
    have h3 := (sv_len q.f0 (q.f1 + a) q.f2).1
    have h4 : svN a q ≤ 40 := by
      unfold svN
      split <;> omega
    simp only [outs, List.length_append, List.length_replicate, List.length_cons]
    omega
theorem rd_cons (x : Int) (xs : List Int) : rd (x :: xs) 0 = x := rfl
theorem rd_set (X : List S116) (i : Nat) (q : S116) (h : i < X.length) : rd_T116 (X.set i q) (i : Int) = q := by
  unfold rd_T116
  rw [show ((i : Int)).toNat = i from rfl, List.getD_eq_getElem?_getD, List.getElem?_set_self h]
  rfl
theorem ssrv (n : Int) (a t : Int) : ∀ (L : List Int) (k : Nat) (out : List Int) (i : Nat) (X : List S116) (d s : Int), (∀ x ∈ L, 1 ≤ x ∧ x ≤ 50) → 0 ≤ d → d ≤ 1000000 → 0 ≤ s → s + 50 * (L.length : Int) ≤ 3000000 → L.length ≤ 40 → i < X.length → out.length + L.length ≤ 1000000 → L.length + 1 < k →
    ∃ k', k ≤ k' + L.length + 1 ∧ spec_l14Round.l1 k out (i : Int) n (i : Int) a X t L d s = spec_l14Round.l0 k' (out ++ List.replicate (sv L d s).2.2.2 (i : Int)) n (wrap64 ((i : Int) + 1)) a (X.set i ⟨(sv L d s).1, (sv L d s).2.1, (sv L d s).2.2.1⟩) t
  | [], k, out, i, X, d, s, hL, d0, d1, s0, s1, hl, hi, ho, hk => by
    obtain ⟨k, rfl⟩ : ∃ m, k = m + 1 := ⟨k - 1, by omega⟩
    refine ⟨k, by omega, ?_⟩
    rw [spec_l14Round.l1, if_neg (by simp), if_pos (by simp), if_pos (by omega), if_pos (by omega)]
    simp [sv]
  | x :: xs, k, out, i, X, d, s, hL, d0, d1, s0, s1, hl, hi, ho, hk => by
    obtain ⟨k, rfl⟩ : ∃ m, k = m + 1 := ⟨k - 1, by omega⟩
    have hx := hL x List.mem_cons_self
    simp only [List.length_cons] at hl ho hk s1
    rw [spec_l14Round.l1, if_pos (by simp only [List.length_cons]; omega), if_pos (by simp only [List.length_cons]; omega), rd_cons]
    by_cases c : x ≤ d
    · rw [if_pos c, if_pos (by simp only [List.length_cons]; omega), if_pos (by omega), wrap_in (x := d - x) (by omega) (by omega), wrap_in (x := s + x) (by omega) (by omega)]
      have hS : sv (x :: xs) d s = ((sv xs (d - x) (s + x)).1, (sv xs (d - x) (s + x)).2.1, (sv xs (d - x) (s + x)).2.2.1, (sv xs (d - x) (s + x)).2.2.2 + 1) := by rw [sv, if_pos c]
      obtain ⟨k', hk', e⟩ := ssrv n a t xs k (out ++ [(i : Int)]) i X (d - x) (s + x) (fun y hy => hL y (List.mem_cons_of_mem _ hy)) (by omega) (by omega) (by omega) (by omega) (by omega) hi (by rw [List.length_append, List.length_singleton]; omega) (by omega)
      refine ⟨k', by simp only [List.length_cons]; omega, ?_⟩
      rw [List.drop_one, List.tail_cons, e, hS]
      simp only [List.append_assoc]
      rw [← List.replicate_one, List.replicate_append_replicate, Nat.add_comm 1]
    · rw [if_neg c, if_neg (by simp only [List.length_cons]; omega), if_pos (by omega), if_pos (by omega)]
      refine ⟨k, by simp only [List.length_cons]; omega, ?_⟩
      rw [sv, if_neg c]
      simp
theorem set_same (X : List S116) (i : Nat) (q : S116) (h : i < X.length) (e : rd_T116 X (i : Int) = q) : X.set i q = X := by
  unfold rd_T116 at e
  rw [show ((i : Int)).toNat = i from rfl, List.getD_eq_getElem?_getD, List.getElem?_eq_getElem h] at e
  rw [← show X[i] = q from e, List.set_getElem_self]
theorem isrv (n : Int) (a t : Int) : ∀ (L : List Int) (k : Nat) (out : List Int) (i : Nat) (X : List S116) (d s : Int), rd_T116 X (i : Int) = ⟨L, d, s⟩ → (∀ x ∈ L, 1 ≤ x ∧ x ≤ 50) → 0 ≤ d → d ≤ 1000000 → 0 ≤ s → s + 50 * (L.length : Int) ≤ 3000000 → L.length ≤ 40 → i < X.length → out.length + L.length ≤ 1000000 → L.length + 1 < k →
    ∃ k', k ≤ k' + L.length + 1 ∧ impl_NextRound.l1 k out (i : Int) n (i : Int) a X t = impl_NextRound.l0 k' (out ++ List.replicate (sv L d s).2.2.2 (i : Int)) n (wrap64 ((i : Int) + 1)) a (X.set i ⟨(sv L d s).1, (sv L d s).2.1, (sv L d s).2.2.1⟩) t
  | [], k, out, i, X, d, s, hX, hL, d0, d1, s0, s1, hl, hi, ho, hk => by
    obtain ⟨k, rfl⟩ : ∃ m, k = m + 1 := ⟨k - 1, by omega⟩
    refine ⟨k, by omega, ?_⟩
    rw [impl_NextRound.l1, if_pos (by omega), if_pos (by omega), hX]
    dsimp only
    rw [if_neg (by simp), if_pos (by simp)]
    simp [sv]
  | x :: xs, k, out, i, X, d, s, hX, hL, d0, d1, s0, s1, hl, hi, ho, hk => by
    obtain ⟨k, rfl⟩ : ∃ m, k = m + 1 := ⟨k - 1, by omega⟩
    have hx := hL x List.mem_cons_self
    simp only [List.length_cons] at hl ho hk s1
    rw [impl_NextRound.l1, if_pos (by omega), if_pos (by omega), hX]
    dsimp only
    rw [if_pos (by simp only [List.length_cons]; omega), if_pos (by simp only [List.length_cons]; omega), rd_cons]
    by_cases c : x ≤ d
    · rw [if_pos c, wrap_in (x := d - x) (by omega) (by omega), Option.bind_some, show ((i : Int)).toNat = i from rfl, rd_set X i _ hi]
      dsimp only
      rw [rd_cons, if_pos (by simp only [List.length_cons]; omega), wrap_in (x := s + x) (by omega) (by omega), Option.bind_some, rd_set _ i _ (by rw [List.length_set]; exact hi)]
      dsimp only
      rw [if_pos (by simp only [List.length_cons]; omega), if_pos (by omega), List.set_set, List.set_set, List.drop_one, List.tail_cons]
      have hS : sv (x :: xs) d s = ((sv xs (d - x) (s + x)).1, (sv xs (d - x) (s + x)).2.1, (sv xs (d - x) (s + x)).2.2.1, (sv xs (d - x) (s + x)).2.2.2 + 1) := by rw [sv, if_pos c]
      obtain ⟨k', hk', e⟩ := isrv n a t xs k (out ++ [(i : Int)]) i (X.set i ⟨xs, d - x, s + x⟩) (d - x) (s + x) (rd_set X i _ hi) (fun y hy => hL y (List.mem_cons_of_mem _ hy)) (by omega) (by omega) (by omega) (by omega) (by omega) (by rw [List.length_set]; exact hi) (by rw [List.length_append, List.length_singleton]; omega) (by omega)
      refine ⟨k', by simp only [List.length_cons]; omega, ?_⟩
      rw [e, hS, List.set_set]
      simp only [List.append_assoc]
      rw [← List.replicate_one, List.replicate_append_replicate, Nat.add_comm 1]
    · rw [if_neg c, if_neg (by simp only [List.length_cons]; omega)]
      refine ⟨k, by simp only [List.length_cons]; omega, ?_⟩
      rw [sv, if_neg c]
      simp only [List.replicate_zero, List.append_nil]
      rw [set_same X i _ hi hX]
theorem rd_mid (P Q : List S116) (q : S116) : rd_T116 (P ++ q :: Q) (P.length : Int) = q := by
  unfold rd_T116
  rw [show ((P.length : Int)).toNat = P.length from rfl, List.getD_eq_getElem?_getD, List.getElem?_append_right (Nat.le_refl _), Nat.sub_self]
  rfl
theorem set_mid (P Q : List S116) (q q' : S116) : (P ++ q :: Q).set P.length q' = (P ++ [q']) ++ Q := by
  rw [List.set_append_right _ _ (Nat.le_refl _), Nat.sub_self, List.append_assoc]
  rfl
theorem svQ_len (a : Int) (q : S116) (h : q.f0.length ≤ 40) : (svQ a q).f0.length ≤ 40 := by
  unfold svQ
  split
  · exact h
  · have := (sv_len q.f0 (q.f1 + a) q.f2).2
    show (sv q.f0 (q.f1 + a) q.f2).1.length ≤ 40
    omega
theorem sround (a t : Int) (ha : 1 ≤ a ∧ a ≤ 50) (ht : 0 ≤ t ∧ t ≤ 1000000) : ∀ (Q P : List S116) (k : Nat) (out : List Int), (∀ q ∈ Q, GQ q) → (∀ q ∈ P, q.f0.length ≤ 40) → P.length + Q.length ≤ 6 → out.length + 40 * Q.length ≤ 1000 → 50 * Q.length + 2000000 < k →
    spec_l14Round.l0 k out ((P.length + Q.length : Nat) : Int) (P.length : Int) a (P ++ Q) t = some (a, P ++ Q.map (svQ a), t + 1, out ++ outs a P.length Q)
  | [], P, k, out, hQ, hP, hn, ho, hk => by
    obtain ⟨k, rfl⟩ : ∃ m, k = m + 1 := ⟨k - 1, by omega⟩
    rw [spec_l14Round.l0, if_neg (by simp), List.append_nil, wrap_in (by omega) (by omega), own_is P a (t + 1) (by omega) (fun q hq => by have := hP q hq; omega) k (by omega), Option.bind_some]
    simp [outs]
  | q :: Q, P, k, out, hQ, hP, hn, ho, hk => by
    obtain ⟨k, rfl⟩ : ∃ m, k = m + 1 := ⟨k - 1, by omega⟩
    simp only [List.length_cons] at hn ho hk
    have hq := hQ q List.mem_cons_self
    have hlen : (P ++ q :: Q).length = P.length + (Q.length + 1) := by simp
    rw [spec_l14Round.l0, if_pos (by simp only [List.length_cons]; omega), if_pos (by omega), if_pos (by rw [hlen]; omega), rd_mid]
    have hN : ∀ q' : S116, ((P.length + (q :: Q).length : Nat) : Int) = (((P ++ [q']).length + Q.length : Nat) : Int) := fun q' => by simp only [List.length_cons, List.length_append, List.length_nil]; omega
    have hP1 : ∀ q' : S116, ((P.length + 1 : Nat) : Int) = ((P ++ [q']).length : Int) := fun q' => by simp
    have hW : wrap64 ((P.length : Int) + 1) = ((P.length + 1 : Nat) : Int) := wrap_succ (n := 6) (by omega) (by omega)
    by_cases c : q.f0 = []
    · have e1 : svQ a q = q := if_pos c
      have e2 : svN a q = 0 := if_pos c
      rw [if_pos (by rw [c]; rfl), hW, hN q, hP1 q]
      have go := sround a t ha ht Q (P ++ [q]) k out (fun p hp => hQ p (List.mem_cons_of_mem _ hp)) (fun p hp => by
        rcases List.mem_append.mp hp with h | h
        · exact hP p h
        · rw [List.mem_singleton.mp h]; exact hq.2.1) (by simp only [List.length_append, List.length_singleton]; omega) (by omega) (by omega)
      rw [List.append_assoc, List.singleton_append] at go
      rw [go, outs, e2, List.map_cons, e1]
      simp
    · have hl : q.f0.length ≠ 0 := fun h => c (List.length_eq_zero_iff.mp h)
      rw [if_neg (by omega), wrap_in (x := q.f1 + a) (by have := hq.2.2.1; omega) (by have := hq.2.2.1; omega)]
      obtain ⟨k', hk', e⟩ := ssrv ((P.length + (q :: Q).length : Nat) : Int) a t q.f0 k out P.length (P ++ q :: Q) (q.f1 + a) q.f2 hq.1 (by have := hq.2.2.1; omega) (by have := hq.2.2.1; omega) hq.2.2.2.1.1 (by have := hq.2.2.2.1; have := hq.2.1; omega) hq.2.1 (by rw [hlen]; omega) (by have := hq.2.1; omega) (by have := hq.2.1; omega)
      have e1 : svQ a q = ⟨(sv q.f0 (q.f1 + a) q.f2).1, (sv q.f0 (q.f1 + a) q.f2).2.1, (sv q.f0 (q.f1 + a) q.f2).2.2.1⟩ := if_neg c
      have e2 : svN a q = (sv q.f0 (q.f1 + a) q.f2).2.2.2 := if_neg c
      rw [e, ← e1, ← e2, set_mid, hW, hN (svQ a q), hP1 (svQ a q)]
      have h4 : svN a q ≤ 40 := by
        have := (sv_len q.f0 (q.f1 + a) q.f2).1
        have := hq.2.1
        omega
      have go := sround a t ha ht Q (P ++ [svQ a q]) k' (out ++ List.replicate (svN a q) (P.length : Int)) (fun p hp => hQ p (List.mem_cons_of_mem _ hp)) (fun p hp => by
        rcases List.mem_append.mp hp with h | h
        · exact hP p h
        · rw [List.mem_singleton.mp h]; exact svQ_len a q hq.2.1) (by simp only [List.length_append, List.length_singleton]; omega) (by simp only [List.length_append, List.length_replicate]; omega) (by have := hq.2.1; omega)
      rw [go, outs, List.map_cons]
      simp
/-- What the program answers behind the loop. -/
noncomputable def fin (a : Int) (X : List S116) (t : Int) (out : List Int) : Option (Int × List S116 × Int × List Int × Bool) := if GT a X t then some (a, X, t, out, true) else some (0, [], 0, [], false)
theorem iround (a t : Int) (ha : 1 ≤ a ∧ a ≤ 50) (ht : 0 ≤ t ∧ t ≤ 1000000) : ∀ (Q P : List S116) (k : Nat) (out : List Int), (∀ q ∈ Q, GQ q) → (∀ q ∈ P, q.f0.length ≤ 40) → P.length + Q.length ≤ 6 → out.length + 40 * Q.length ≤ 1000 → 50 * Q.length + 3000000 < k →
    impl_NextRound.l0 k out ((P.length + Q.length : Nat) : Int) (P.length : Int) a (P ++ Q) t = fin a (P ++ Q.map (svQ a)) (t + 1) (out ++ outs a P.length Q)
  | [], P, k, out, hQ, hP, hn, ho, hk => by
    obtain ⟨k, rfl⟩ : ∃ m, k = m + 1 := ⟨k - 1, by omega⟩
    rw [impl_NextRound.l0, if_neg (by simp), List.append_nil, wrap_in (by omega) (by omega), igoodT_is a P (t + 1) (by omega) (fun q hq => by have := hP q hq; omega) k (by omega), Option.bind_some, List.map_nil, List.append_nil, outs, List.append_nil]
    unfold fin
    by_cases c : GT a P (t + 1)
    · rw [decide_eq_true c, if_pos rfl, if_pos c, copied_is P a (t + 1) (by omega) (fun q hq => by have := hP q hq; omega)]
      rfl
    · rw [decide_eq_false c, if_neg Bool.false_ne_true, if_neg c]
  | q :: Q, P, k, out, hQ, hP, hn, ho, hk => by
    obtain ⟨k, rfl⟩ : ∃ m, k = m + 1 := ⟨k - 1, by omega⟩
    simp only [List.length_cons] at hn ho hk
    have hq := hQ q List.mem_cons_self
    have hlen : (P ++ q :: Q).length = P.length + (Q.length + 1) := by simp
    rw [impl_NextRound.l0, if_pos (by simp only [List.length_cons]; omega), if_pos (by omega), if_pos (by rw [hlen]; omega), rd_mid]
    have hN : ∀ q' : S116, ((P.length + (q :: Q).length : Nat) : Int) = (((P ++ [q']).length + Q.length : Nat) : Int) := fun q' => by simp only [List.length_cons, List.length_append, List.length_nil]; omega
    have hP1 : ∀ q' : S116, ((P.length + 1 : Nat) : Int) = ((P ++ [q']).length : Int) := fun q' => by simp
    have hW : wrap64 ((P.length : Int) + 1) = ((P.length + 1 : Nat) : Int) := wrap_succ (n := 6) (by omega) (by omega)
    by_cases c : q.f0 = []
    · have e1 : svQ a q = q := if_pos c
      have e2 : svN a q = 0 := if_pos c
      rw [if_pos (by rw [c]; rfl), hW, hN q, hP1 q]
      have go := iround a t ha ht Q (P ++ [q]) k out (fun p hp => hQ p (List.mem_cons_of_mem _ hp)) (fun p hp => by
        rcases List.mem_append.mp hp with h | h
        · exact hP p h
        · rw [List.mem_singleton.mp h]; exact hq.2.1) (by simp only [List.length_append, List.length_singleton]; omega) (by omega) (by omega)
      rw [List.append_assoc, List.singleton_append] at go
      rw [go, outs, e2, List.map_cons, e1]
      simp
    · have hl : q.f0.length ≠ 0 := fun h => c (List.length_eq_zero_iff.mp h)
      rw [if_neg (by omega), wrap_in (x := q.f1 + a) (by have := hq.2.2.1; omega) (by have := hq.2.2.1; omega), show ((P.length : Int)).toNat = P.length from rfl]
      have hi : P.length < (P ++ q :: Q).length := by rw [hlen]; omega
      obtain ⟨k', hk', e⟩ := isrv ((P.length + (q :: Q).length : Nat) : Int) a t q.f0 k out P.length ((P ++ q :: Q).set P.length ⟨q.f0, q.f1 + a, q.f2⟩) (q.f1 + a) q.f2 (rd_set _ _ _ hi) hq.1 (by have := hq.2.2.1; omega) (by have := hq.2.2.1; omega) hq.2.2.2.1.1 (by have := hq.2.2.2.1; have := hq.2.1; omega) hq.2.1 (by rw [List.length_set]; exact hi) (by have := hq.2.1; omega) (by have := hq.2.1; omega)
      have e1 : svQ a q = ⟨(sv q.f0 (q.f1 + a) q.f2).1, (sv q.f0 (q.f1 + a) q.f2).2.1, (sv q.f0 (q.f1 + a) q.f2).2.2.1⟩ := if_neg c
      have e2 : svN a q = (sv q.f0 (q.f1 + a) q.f2).2.2.2 := if_neg c
      rw [e, ← e1, ← e2, List.set_set, set_mid, hW, hN (svQ a q), hP1 (svQ a q)]
      have h4 : svN a q ≤ 40 := by
        have := (sv_len q.f0 (q.f1 + a) q.f2).1
        have := hq.2.1
        omega
      have go := iround a t ha ht Q (P ++ [svQ a q]) k' (out ++ List.replicate (svN a q) (P.length : Int)) (fun p hp => hQ p (List.mem_cons_of_mem _ hp)) (fun p hp => by
        rcases List.mem_append.mp hp with h | h
        · exact hP p h
        · rw [List.mem_singleton.mp h]; exact svQ_len a q hq.2.1) (by simp only [List.length_append, List.length_singleton]; omega) (by simp only [List.length_append, List.length_replicate]; omega) (by have := hq.2.1; omega)
      rw [go, outs, List.map_cons]
      simp
/-- What both answer. -/
noncomputable def nextR (a : Int) (l : List S116) (t : Int) : Int × List S116 × Int × List Int × Bool := if GT a l t ∧ GT a (l.map (svQ a)) (t + 1) then (a, l.map (svQ a), t + 1, outs a 0 l, true) else (0, [], 0, [], false)
theorem snext_is (a : Int) (l : List S116) (t : Int) (hn : l.length ≤ 1048576) (hl : ∀ q ∈ l, q.f0.length ≤ 1048576) (k : Nat) (hk : 3000400 < k) : spec_NextRound.f k a l t = some (nextR a l t) := by
  unfold spec_NextRound.f nextR
  rw [sgoodT_is a l t hn hl k (by omega), Option.bind_some]
  by_cases c : GT a l t
  · have h6 := c.2.2.1
    have hs := sround a t c.2.1 c.2.2.2 l [] k [] c.1 (fun q hq => by cases hq) (by simp only [List.length_nil]; omega) (by simp only [List.length_nil]; omega) (by omega)
    simp only [List.nil_append, List.length_nil, Nat.zero_add] at hs
    rw [decide_eq_true c, if_pos rfl]
    unfold spec_l14Round.f
    rw [own_is l a t hn hl k (by omega), Option.bind_some]
    dsimp only
    rw [show (0 : Int) = ((0 : Nat) : Int) from rfl, hs, Option.bind_some]
    dsimp only
    rw [sgoodT_is a (l.map (svQ a)) (t + 1) (by rw [List.length_map]; exact hn) (fun q hq => by
      obtain ⟨p, hp, rfl⟩ := List.mem_map.mp hq
      have := svQ_len a p (c.1 p hp).2.1
      omega) k (by omega), Option.bind_some]
    by_cases c2 : GT a (l.map (svQ a)) (t + 1)
    · rw [decide_eq_true c2, if_pos rfl, if_pos ⟨c, c2⟩]
    · rw [decide_eq_false c2, if_neg Bool.false_ne_true, if_neg (fun h => c2 h.2)]
  · rw [decide_eq_false c, if_neg Bool.false_ne_true, if_neg (fun h => c h.1)]
theorem inext_is (a : Int) (l : List S116) (t : Int) (hn : l.length ≤ 1048576) (hl : ∀ q ∈ l, q.f0.length ≤ 1048576) (k : Nat) (hk : 3000400 < k) : impl_NextRound.f k a l t = some (nextR a l t) := by
  unfold impl_NextRound.f nextR
  rw [igoodT_is a l t hn hl k (by omega), Option.bind_some]
  by_cases c : GT a l t
  · have h6 := c.2.2.1
    have hs := iround a t c.2.1 c.2.2.2 l [] k [] c.1 (fun q hq => by cases hq) (by simp only [List.length_nil]; omega) (by simp only [List.length_nil]; omega) (by omega)
    simp only [List.nil_append, List.length_nil, Nat.zero_add] at hs
    rw [decide_eq_true c, if_pos rfl, copied_is l a t (by omega) (fun q hq => by have := (c.1 q hq).2.1; omega), Option.bind_some]
    dsimp only
    rw [show (0 : Int) = ((0 : Nat) : Int) from rfl, hs]
    unfold fin
    by_cases c2 : GT a (l.map (svQ a)) (t + 1)
    · rw [if_pos c2, if_pos ⟨c, c2⟩]
    · rw [if_neg c2, if_neg (fun h => c2 h.2)]
      rfl
  · rw [decide_eq_false c, if_neg Bool.false_ne_true, if_neg (fun h => c h.1)]

theorem nextR_small (a : Int) (l : List S116) (t : Int) : (nextR a l t).2.1.length ≤ 6 ∧ (∀ q ∈ (nextR a l t).2.1, q.f0.length ≤ 40) ∧ (nextR a l t).2.2.2.1.length ≤ 1000 := by
  unfold nextR
  by_cases c : GT a l t ∧ GT a (l.map (svQ a)) (t + 1)
  · rw [if_pos c]
    have h6 := c.1.2.2.1
    refine ⟨by rw [List.length_map]; omega, fun q hq => (c.2.1 q hq).2.1, ?_⟩
    have := outs_len a l 0 (fun q hq => (c.1.1 q hq).2.1)
    show (outs a 0 l).length ≤ 1000
    omega
  · rw [if_neg c]
    exact ⟨Nat.zero_le _, (fun q hq => by cases hq), Nat.zero_le _⟩
theorem markH3 (x : List S116) (hn : x.length ≤ 1048576) (hx : ∀ c ∈ x, c.f0.length ≤ 1048576) : ∃ (m : Int) (y : List S116), 0 ≤ m ∧ m ≤ 1000000000000000 ∧ ∀ k, 2097154 < k → laws_markQueueS.f k x 1 = some (m, y) ∧ laws_heldQueueS.f k y 1 = some m := by
  obtain ⟨m, y, h0, h⟩ := markH2 x hn hx
  refine ⟨m, y, h0, ?_, h⟩
  have h1 := tot_le 1048576 x hx
  have h2 : x.length * (1048576 + 2) ≤ 1048576 * (1048576 + 2) := Nat.mul_le_mul_right _ hn
  have a := markQ_l0 x.length 4000000 0 x 1 hn hx (by omega) (by omega) (by omega) (by omega) (by rw [List.drop_zero]; omega)
  rw [List.drop_zero, List.take_zero, List.nil_append] at a
  have e := (h 4000000 (by omega)).1
  unfold laws_markQueueS.f at e
  rw [show (0 : Int) = ((0 : Nat) : Int) from rfl, a] at e
  injection e with e
  injection e with e _
  omega

/-! Many rounds. -/
noncomputable def runR : Nat → Int → List S116 → Int → Int → Int × List S116 × Int × Int × Bool
  | 0, a, l, t, n => (a, l, t, n, true)
  | m + 1, a, l, t, n => if (nextR a l t).2.2.2.2 = true then runR m (nextR a l t).1 (nextR a l t).2.1 (nextR a l t).2.2.1 (n + ((nextR a l t).2.2.2.1.length : Int)) else (0, [], 0, 0, false)
noncomputable def runF (a : Int) (l : List S116) (t many : Int) : Int × List S116 × Int × Int × Bool := if GT a l t ∧ 0 ≤ many ∧ many ≤ 200 then runR many.toNat a l t 0 else (0, [], 0, 0, false)
theorem runR_small : ∀ (m : Nat) (a : Int) (l : List S116) (t n : Int), l.length ≤ 6 → (∀ q ∈ l, q.f0.length ≤ 40) → (runR m a l t n).2.1.length ≤ 6 ∧ ∀ q ∈ (runR m a l t n).2.1, q.f0.length ≤ 40
  | 0, _, _, _, _, h1, h2 => ⟨h1, h2⟩
  | m + 1, a, l, t, n, h1, h2 => by
    unfold runR
    obtain ⟨p1, p2, _⟩ := nextR_small a l t
    split
    · exact runR_small m _ _ _ _ p1 p2
    · exact ⟨Nat.zero_le _, (fun q hq => by cases hq)⟩
theorem runF_small (a : Int) (l : List S116) (t many : Int) : (runF a l t many).2.1.length ≤ 6 ∧ ∀ q ∈ (runF a l t many).2.1, q.f0.length ≤ 40 := by
  unfold runF
  by_cases c : GT a l t ∧ 0 ≤ many ∧ many ≤ 200
  · rw [if_pos c]
    have h6 := c.1.2.2.1
    exact runR_small _ _ _ _ _ (by omega) (fun q hq => (c.1.1 q hq).2.1)
  · rw [if_neg c]
    exact ⟨Nat.zero_le _, (fun q hq => by cases hq)⟩
theorem srun : ∀ (m k : Nat) (a : Int) (l : List S116) (t n : Int), l.length ≤ 6 → (∀ q ∈ l, q.f0.length ≤ 40) → m ≤ 200 → 0 ≤ n → n + 1000 * (m : Int) ≤ 1000000 → 3001000 + m < k → spec_RunRounds.l0 k (m : Int) n a l t = some (runR m a l t n)
  | 0, k, a, l, t, n, h1, h2, hm, n0, n1, hk => by
    obtain ⟨k, rfl⟩ : ∃ m, k = m + 1 := ⟨k - 1, by omega⟩
    rw [spec_RunRounds.l0, if_neg (by omega), runR]
  | m + 1, k, a, l, t, n, h1, h2, hm, n0, n1, hk => by
    obtain ⟨k, rfl⟩ : ∃ m, k = m + 1 := ⟨k - 1, by omega⟩
    rw [spec_RunRounds.l0, if_pos (by omega), snext_is a l t (by omega) (fun q hq => by have := h2 q hq; omega) k (by omega), Option.bind_some, runR]
    obtain ⟨p1, p2, p3⟩ := nextR_small a l t
    by_cases c : (nextR a l t).2.2.2.2 = true
    · rw [if_pos c, if_pos c, wrap_in (x := ((m + 1 : Nat) : Int) - 1) (by omega) (by omega), wrap_in (x := n + ((nextR a l t).2.2.2.1.length : Int)) (by omega) (by omega), show ((m + 1 : Nat) : Int) - 1 = (m : Int) by omega]
      exact srun m k _ _ _ _ p1 p2 (by omega) (by omega) (by omega) (by omega)
    · rw [if_neg c, if_neg c]
theorem irun (many : Nat) : ∀ (m k : Nat) (a : Int) (l : List S116) (t n : Int) (i : Nat), i + m = many → l.length ≤ 6 → (∀ q ∈ l, q.f0.length ≤ 40) → many ≤ 200 → 0 ≤ n → n + 1000 * (m : Int) ≤ 1000000 → 3001000 + m < k → impl_RunRounds.l0 k n (many : Int) (i : Int) a l t = some (runR m a l t n)
  | 0, k, a, l, t, n, i, hi, h1, h2, hm, n0, n1, hk => by
    obtain ⟨k, rfl⟩ : ∃ m, k = m + 1 := ⟨k - 1, by omega⟩
    rw [impl_RunRounds.l0, if_neg (by omega), runR]
  | m + 1, k, a, l, t, n, i, hi, h1, h2, hm, n0, n1, hk => by
    obtain ⟨k, rfl⟩ : ∃ m, k = m + 1 := ⟨k - 1, by omega⟩
    rw [impl_RunRounds.l0, if_pos (by omega), inext_is a l t (by omega) (fun q hq => by have := h2 q hq; omega) k (by omega), Option.bind_some, runR]
    obtain ⟨p1, p2, p3⟩ := nextR_small a l t
    by_cases c : (nextR a l t).2.2.2.2 = true
    · rw [if_pos c, if_pos c, wrap_succ (i := i) (n := 200) (by omega) (by omega), wrap_in (x := n + ((nextR a l t).2.2.2.1.length : Int)) (by omega) (by omega)]
      exact irun many m k _ _ _ _ (i + 1) (by omega) p1 p2 (by omega) (by omega) (by omega) (by omega)
    · rw [if_neg c, if_neg c]
theorem srunF (a : Int) (l : List S116) (t many : Int) (hn : l.length ≤ 1048576) (hl : ∀ q ∈ l, q.f0.length ≤ 1048576) (k : Nat) (hk : 3002000 < k) : spec_RunRounds.f k a l t many = some (runF a l t many) := by
  obtain ⟨k, rfl⟩ : ∃ m, k = m + 1 := ⟨k - 1, by omega⟩
  unfold spec_RunRounds.f runF
  rw [sgoodT_is a l t hn hl _ (by omega), Option.bind_some, sin_is, Option.bind_some]
  by_cases c : GT a l t
  · rw [decide_eq_true c, if_pos rfl, spec_RunRounds.j0]
    have h6 := c.2.2.1
    by_cases c2 : 0 ≤ many ∧ many ≤ 200
    · rw [decide_eq_true c2, if_neg (by decide), own_is l a t hn hl k (by omega), Option.bind_some, if_pos ⟨c, c2⟩]
      dsimp only
      have := srun many.toNat k a l t 0 (by omega) (fun q hq => (c.1 q hq).2.1) (by omega) (by omega) (by omega) (by omega)
      rw [show ((many.toNat : Nat) : Int) = many by omega] at this
      exact this
    · rw [decide_eq_false c2, if_pos (by decide), if_neg (fun h => c2 h.2)]
  · rw [decide_eq_false c, if_neg Bool.false_ne_true, spec_RunRounds.j0, if_pos rfl, if_neg (fun h => c h.1)]
theorem irunF (a : Int) (l : List S116) (t many : Int) (hn : l.length ≤ 1048576) (hl : ∀ q ∈ l, q.f0.length ≤ 1048576) (k : Nat) (hk : 3002000 < k) : impl_RunRounds.f k a l t many = some (runF a l t many) := by
  obtain ⟨k, rfl⟩ : ∃ m, k = m + 1 := ⟨k - 1, by omega⟩
  unfold impl_RunRounds.f runF
  rw [igoodT_is a l t hn hl _ (by omega), Option.bind_some, iin_is, Option.bind_some]
  by_cases c : GT a l t
  · rw [decide_eq_true c, if_pos rfl, impl_RunRounds.j0]
    have h6 := c.2.2.1
    by_cases c2 : 0 ≤ many ∧ many ≤ 200
    · rw [decide_eq_true c2, if_neg (by decide), copied_is l a t (by omega) (fun q hq => by have := (c.1 q hq).2.1; omega), Option.bind_some, if_pos ⟨c, c2⟩]
      dsimp only
      have := irun many.toNat many.toNat k a l t 0 0 (by omega) (by omega) (fun q hq => (c.1 q hq).2.1) (by omega) (by omega) (by omega) (by omega)
      rw [show ((many.toNat : Nat) : Int) = many by omega] at this
      exact this
    · rw [decide_eq_false c2, if_pos (by decide), if_neg (fun h => c2 h.2)]
  · rw [decide_eq_false c, if_neg Bool.false_ne_true, impl_RunRounds.j0, if_pos rfl, if_neg (fun h => c h.1)]

theorem law_is (a : Int) (l : List S167) (t b : Int) (hn : l.length ≤ maxLen) (hl : ∀ q ∈ l, q.f0.length ≤ maxLen) (k : Nat) (hk : 4000000 < k) : laws_FnExactRunRounds.f k a l t b = some true := by
  unfold laws_FnExactRunRounds.f
  obtain ⟨r, hr, e⟩ := szTurns_is a l t hn hl
  rw [e _ (by omega), Option.bind_some]
  by_cases c : r < 0
  · rw [if_pos c]
  · rw [if_neg c]
    rcases hr with hr | ⟨h1, h2⟩
    · exact absurd hr c
    · have h1' : (l.map conv).length ≤ 1048576 := by rw [List.length_map]; exact h1
      have h2' : ∀ q ∈ l.map conv, q.f0.length ≤ 1048576 := by
        intro q hq
        obtain ⟨p, hp, rfl⟩ := List.mem_map.mp hq
        exact h2 p hp
      have hto := fun k (hk : 2097152 < k) => toTurns_is a l t h1 h2 k hk
      have hsp := fun k (hk : 3002000 < k) => srunF a (l.map conv) t b h1' h2' k hk
      have him := fun k (hk : 3002000 < k) => irunF a (l.map conv) t b h1' h2' k hk
      have heq := fun k (hk : 2097152 < k) => eqTurns_same a (l.map conv) t h1' h2' k hk
      obtain ⟨p1, p2⟩ := runF_small a (l.map conv) t b
      obtain ⟨m, y, m0, m1, hm⟩ := markH3 (l.map conv) h1' h2'
      generalize hP : runF a (l.map conv) t b = P at *
      obtain ⟨q, z, u, out, ok⟩ := P
      dsimp only at p1 p2
      have hez := fun k (hk : 2097152 < k) => eqTurns_same q z u (by omega) (fun q hq => by have := p2 q hq; omega) k hk
      obtain ⟨m2, y2, n0, n1, hm2⟩ := markH3 z (by omega) (fun q hq => by have := p2 q hq; omega)
      generalize l.map conv = L at *
      obtain ⟨k, rfl⟩ : ∃ n, k = n + 3 := ⟨k - 3, by omega⟩
      rw [hto _ (by omega), Option.bind_some]
      dsimp only
      rw [hsp _ (by omega), Option.bind_some, Option.bind_some, him _ (by omega), Option.bind_some]
      dsimp only
      rw [hez _ (by omega), Option.bind_some, if_pos rfl, if_pos rfl, bne_self_eq_false, laws_FnExactRunRounds.j0, if_neg Bool.false_ne_true, hto _ (by omega), Option.bind_some]
      dsimp only
      unfold laws_markTurns.f
      rw [heq _ (by omega), Option.bind_some, if_pos rfl, (hm _ (by omega)).1, Option.bind_some]
      dsimp only
      rw [if_neg (by omega), hez _ (by omega), Option.bind_some, if_pos rfl, if_pos rfl, bne_self_eq_false, laws_FnExactRunRounds.j1, if_neg Bool.false_ne_true]
      unfold laws_markTurns.f
      rw [(hm2 _ (by omega)).1, Option.bind_some]
      dsimp only
      rw [heldT y2 m2 n0 q u _ (hm2 _ (by omega)).2, Option.bind_some, if_neg (by omega), if_pos rfl, hto _ (by omega), Option.bind_some]
      dsimp only
      rw [him _ (by omega), Option.bind_some]
      dsimp only
      rw [hez _ (by omega), Option.bind_some, if_pos rfl, if_pos rfl, bne_self_eq_false, laws_FnExactRunRounds.j2, if_neg Bool.false_ne_true, heldT y2 m2 n0 q u _ (hm2 _ (by omega)).2, Option.bind_some, if_neg (by omega), if_pos rfl]
theorem FnExactRunRounds : laws_FnExactRunRounds.Stmt := by
  intro a l t b ⟨_, ⟨hn, hl⟩, _⟩ _
  exact ⟨4000001, law_is a l t b hn (fun q hq => (hl q hq).1.1) _ (by omega)⟩

end Go.Proofs.Yteneeohaoplpbaa.Pure
