/- The program's GoodTurns returns what the reference's returns, for all turns. -/
import Derived.Test.YtnphabcbnpenjaaXFnExactGoodTurnsx4
set_option linter.unusedVariables false
set_option linter.unusedSimpArgs false
namespace Go.Proofs.Ytnphabcbnpenjaa.Pure
open Go.RowKit Go.Proofs.Ytnphabcbnpenjaa.XFnExactGoodTurns Go.Proofs.YtnphabcbnpenjaaW.PrintWords Go.Proofs.YtnphabcbnpenjaaW.PrintLast Go.Proofs.YtnphabcbnpenjaaW.PrintMore

/-- What is to be shown of FnExactGoodTurns, in numbers and lists alone. -/
def laws_FnExactGoodTurns.Stmt : Prop := ∀ (a0_0 : Int) (l0_1 : List (S166)) (a0_2 : Int), (((Lit.int .i64 a0_0).wf = true) ∧ (l0_1.length ≤ maxLen ∧ ∀ x ∈ l0_1, (x.f0.length ≤ maxLen ∧ ∀ x' ∈ x.f0, (Lit.int .i64 x').wf = true) ∧ ((Lit.int .i64 x.f1).wf = true) ∧ ((Lit.int .i64 x.f2).wf = true)) ∧ ((Lit.int .i64 a0_2).wf = true)) → ∃ k, laws_FnExactGoodTurns.f k a0_0 l0_1 a0_2 = some true

theorem wrap_in {x : Int} (h0 : -9223372036854775808 ≤ x) (h1 : x ≤ 9223372036854775807) : wrap64 x = x := by
  unfold wrap64
  omega
theorem wrap_succ {i n : Nat} (h : i < n) (hn : n ≤ 9223372036854775807) : wrap64 ((i : Int) + 1) = ((i + 1 : Nat) : Int) := by
  rw [wrap_in (by omega) (by omega)]
  omega

theorem eqIntS_l0 (a : List Int) (hn : a.length ≤ 9223372036854775807) (d : Nat) : ∀ (k i : Nat), a.length - i = d → d < k → laws_eqIntS.l0 k a a (i : Int) = some true := by
  induction d with
  | zero =>
    intro k i hd hk
    obtain ⟨k, rfl⟩ : ∃ m, k = m + 1 := ⟨k - 1, by omega⟩
    simp only [laws_eqIntS.l0]
    rw [if_neg (by omega)]
  | succ d ih =>
    intro k i hd hk
    obtain ⟨k, rfl⟩ : ∃ m, k = m + 1 := ⟨k - 1, by omega⟩
    simp only [laws_eqIntS.l0]
    rw [if_pos (by omega), if_pos (by omega), if_pos (by omega), if_pos trivial, wrap_succ (n := a.length) (by omega) hn]
    exact ih k (i + 1) (by omega) (by omega)
theorem eqIntS_same (a : List Int) (hn : a.length ≤ 9223372036854775807) (k : Nat) (hk : a.length < k) : laws_eqIntS.f k a a = some true := by
  unfold laws_eqIntS.f
  rw [if_pos rfl]
  exact eqIntS_l0 a hn a.length k 0 (by omega) hk

theorem toIntS_l0 (a : List Int) (hn : a.length ≤ 9223372036854775807) (d : Nat) : ∀ (k i : Nat) (x : List Int), a.length - i = d → i ≤ a.length → x.length = a.length → d < k → laws_toIntS.l0 k a x (i : Int) = some (x.take i ++ a.drop i) := by
  induction d with
  | zero =>
    intro k i x hd hi hx hk
    obtain ⟨k, rfl⟩ : ∃ m, k = m + 1 := ⟨k - 1, by omega⟩
    simp only [laws_toIntS.l0]
    rw [if_neg (by omega), List.take_of_length_le (by omega), List.drop_of_length_le (by omega), List.append_nil]
  | succ d ih =>
    intro k i x hd hi hx hk
    obtain ⟨k, rfl⟩ : ∃ m, k = m + 1 := ⟨k - 1, by omega⟩
    simp only [laws_toIntS.l0]
    rw [if_pos (by omega), if_pos (by omega), if_pos (by omega), wrap_succ (n := a.length) (by omega) hn, ih k (i + 1) _ (by omega) (by omega) (by rw [List.length_set]; exact hx) (by omega)]
    have hi' : i < x.length := by omega
    have hia : i < a.length := by omega
    have e1 : (x.set (i : Int).toNat (rd a (i : Int))).take (i + 1) = x.take i ++ [rd a (i : Int)] := by
      rw [show (i : Int).toNat = i from rfl, List.take_add_one, List.take_set_of_le (Nat.le_refl i), List.getElem?_set_self hi']
      rfl
    have e2 : a.drop i = rd a (i : Int) :: a.drop (i + 1) := by
      rw [List.drop_eq_getElem_cons hia]
      unfold rd
      simp [List.getD_eq_getElem?_getD, List.getElem?_eq_getElem hia]
    rw [e1, e2]
    simp
theorem toIntS_is (a : List Int) (hn : a.length ≤ 35184372088832) (k : Nat) (hk : a.length < k) : laws_toIntS.f k a = some a := by
  unfold laws_toIntS.f
  rw [if_pos (by omega), if_pos (by simpa using hn)]
  have := toIntS_l0 a (by omega) a.length k 0 (List.replicate a.length 0) (by omega) (by omega) (by simp) hk
  simpa using this

theorem rd110_mem (l : List S110) (i : Nat) (h : i < l.length) : rd_T110 l (i : Int) ∈ l := by
  unfold rd_T110
  rw [show (i : Int).toNat = i from rfl, List.getD_eq_getElem?_getD, List.getElem?_eq_getElem h]
  exact List.getElem_mem h
theorem drop110 (l : List S110) (i : Nat) (h : i < l.length) : l.drop i = rd_T110 l (i : Int) :: l.drop (i + 1) := by
  rw [List.drop_eq_getElem_cons h]
  unfold rd_T110
  simp [List.getD_eq_getElem?_getD, List.getElem?_eq_getElem h]
theorem rd166_mem (l : List S166) (i : Nat) (h : i < l.length) : rd_T166 l (i : Int) ∈ l := by
  unfold rd_T166
  rw [show (i : Int).toNat = i from rfl, List.getD_eq_getElem?_getD, List.getElem?_eq_getElem h]
  exact List.getElem_mem h
theorem drop166 (l : List S166) (i : Nat) (h : i < l.length) : l.drop i = rd_T166 l (i : Int) :: l.drop (i + 1) := by
  rw [List.drop_eq_getElem_cons h]
  unfold rd_T166
  simp [List.getD_eq_getElem?_getD, List.getElem?_eq_getElem h]
theorem dropInt (l : List Int) (i : Nat) (h : i < l.length) : l.drop i = rd l (i : Int) :: l.drop (i + 1) := by
  rw [List.drop_eq_getElem_cons h]
  unfold rd
  simp [List.getD_eq_getElem?_getD, List.getElem?_eq_getElem h]
/-- The copy of a row of queues. -/
def conv (q : S166) : S110 := ⟨q.f0, q.f1, q.f2⟩
theorem szInt_is (l : List Int) (m : Int) (h : l.length ≤ maxLen) (hm : 0 ≤ m) (hm1 : m ≤ 1048576) : ∃ r : Int, laws_szIntS.f l m = some r ∧ (r < 0 ∨ ((l.length : Int) ≤ m ∧ r = m - l.length)) := by
  have h0 : l.length ≤ 9223372036854775807 := Nat.le_trans h (by decide)
  unfold laws_szIntS.f
  rw [wrap_in (by omega) (by omega)]
  by_cases c : m - (l.length : Int) < 0
  · rw [if_pos c]
    exact ⟨_, rfl, Or.inl (by omega)⟩
  · rw [if_neg c]
    exact ⟨_, rfl, Or.inr ⟨by omega, rfl⟩⟩
theorem szQueue_is (l : List Int) (b c m : Int) (h : l.length ≤ maxLen) (hm : 0 ≤ m) (hm1 : m ≤ 1048576) : ∃ r : Int, laws_szQueue.f l b c m = some r ∧ (r < 0 ∨ ((l.length : Int) ≤ m ∧ r = m - l.length)) := by
  obtain ⟨r, e, hr⟩ := szInt_is l m h hm hm1
  unfold laws_szQueue.f
  rw [e]
  simp only [Option.bind_some]
  by_cases c : r < 0
  · rw [if_pos c]
    exact ⟨_, rfl, Or.inl (by omega)⟩
  · rw [if_neg c]
    exact ⟨_, rfl, hr⟩
theorem szQueueS_l0 (l : List S166) (hl : ∀ q ∈ l, q.f0.length ≤ maxLen) (hn : l.length ≤ 1048576) (d : Nat) : ∀ (i : Nat) (m : Int), l.length - i = d → 0 ≤ m → m ≤ 1048576 →
    ∃ r : Int, (r < 0 ∨ ∀ q ∈ l.drop i, (q.f0.length : Int) ≤ m) ∧ ∀ k, d < k → laws_szQueueS.l0 k l m (i : Int) = some r := by
  induction d with
  | zero =>
    intro i m hd h0 h1
    refine ⟨m, Or.inr ?_, fun k hk => ?_⟩
    · rw [List.drop_of_length_le (by omega)]
      intro q hq
      cases hq
    · obtain ⟨k, rfl⟩ : ∃ m, k = m + 1 := ⟨k - 1, by omega⟩
      simp only [laws_szQueueS.l0]
      rw [if_neg (by omega)]
  | succ d ih =>
    intro i m hd h0 h1
    have hi : i < l.length := by omega
    obtain ⟨r, e, hr⟩ := szQueue_is (rd_T166 l (i : Int)).f0 (rd_T166 l (i : Int)).f1 (rd_T166 l (i : Int)).f2 m (hl _ (rd166_mem l i hi)) h0 h1
    by_cases c : r < 0
    · refine ⟨-1, Or.inl (by omega), fun k hk => ?_⟩
      obtain ⟨k, rfl⟩ : ∃ m, k = m + 1 := ⟨k - 1, by omega⟩
      simp only [laws_szQueueS.l0]
      rw [if_pos (by omega), if_pos (by omega), e]
      simp only [Option.bind_some]
      rw [if_pos c]
    · obtain ⟨r2, hr2, h2⟩ := ih (i + 1) r (by omega) (by omega) (by omega)
      refine ⟨r2, ?_, fun k hk => ?_⟩
      · rcases hr2 with h | h
        · exact Or.inl h
        · refine Or.inr ?_
          rw [drop166 l i hi]
          intro q hq
          rcases List.mem_cons.mp hq with rfl | hq
          · omega
          · have := h q hq
            omega
      · obtain ⟨k, rfl⟩ : ∃ m, k = m + 1 := ⟨k - 1, by omega⟩
        simp only [laws_szQueueS.l0]
        rw [if_pos (by omega), if_pos (by omega), e]
        simp only [Option.bind_some]
        rw [if_neg c, wrap_succ (n := l.length) (by omega) (by omega)]
        exact h2 k (by omega)
theorem szTurns_is (a : Int) (l : List S166) (t : Int) (h : l.length ≤ maxLen) (hl : ∀ q ∈ l, q.f0.length ≤ maxLen) :
    ∃ r : Int, (r < 0 ∨ (l.length ≤ 1048576 ∧ ∀ q ∈ l, q.f0.length ≤ 1048576)) ∧ ∀ k, 1048577 < k → laws_szTurns.f k a l t 1048576 = some r := by
  have h0 : l.length ≤ 9223372036854775807 := Nat.le_trans h (by decide)
  unfold laws_szTurns.f laws_szQueueS.f
  rw [wrap_in (by omega) (by omega)]
  by_cases c : 1048576 - (l.length : Int) < 0
  · refine ⟨-1, Or.inl (by omega), fun k _ => ?_⟩
    rw [if_pos c]
    simp only [Option.bind_some]
    rw [if_pos (by omega)]
  · obtain ⟨r, hr, e⟩ := szQueueS_l0 l hl (by omega) l.length 0 (1048576 - (l.length : Int)) (by omega) (by omega) (by omega)
    by_cases c2 : r < 0
    · refine ⟨-1, Or.inl (by omega), fun k hk => ?_⟩
      rw [if_neg c, show (0 : Int) = ((0 : Nat) : Int) from rfl, e k (by omega)]
      simp only [Option.bind_some]
      rw [if_pos (by omega)]
    · refine ⟨r, Or.inr ⟨by omega, fun q hq => ?_⟩, fun k hk => ?_⟩
      · rcases hr with h | h
        · exact absurd h c2
        · have := h q (by simpa using hq)
          omega
      · rw [if_neg c, show (0 : Int) = ((0 : Nat) : Int) from rfl, e k (by omega)]
        simp only [Option.bind_some]
        rw [if_neg (by omega)]
theorem toQueue_is (l : List Int) (b c : Int) (h : l.length ≤ 1048576) (k : Nat) (hk : 1048576 < k) : laws_toQueue.f k l b c = some (l, b, c) := by
  unfold laws_toQueue.f
  rw [toIntS_is l (by omega) k (by omega)]
  rfl
theorem toQueueS_l0 (a : List S166) (hn : a.length ≤ 1048576) (hl : ∀ q ∈ a, q.f0.length ≤ 1048576) (d : Nat) : ∀ (k i : Nat) (x : List S110), a.length - i = d → i ≤ a.length → x.length = a.length → 1048576 + d < k → laws_toQueueS.l0 k a x (i : Int) = some (x.take i ++ (a.drop i).map conv) := by
  induction d with
  | zero =>
    intro k i x hd hi hx hk
    obtain ⟨k, rfl⟩ : ∃ m, k = m + 1 := ⟨k - 1, by omega⟩
    simp only [laws_toQueueS.l0]
    rw [if_neg (by omega), List.take_of_length_le (by omega), List.drop_of_length_le (by omega), List.map_nil, List.append_nil]
  | succ d ih =>
    intro k i x hd hi hx hk
    have hia : i < a.length := by omega
    obtain ⟨k, rfl⟩ : ∃ m, k = m + 1 := ⟨k - 1, by omega⟩
    simp only [laws_toQueueS.l0]
    rw [if_pos (by omega), if_pos (by omega), toQueue_is _ _ _ (hl _ (rd166_mem a i hia)) k (by omega)]
    simp only [Option.bind_some]
    rw [if_pos (by omega), wrap_succ (n := a.length) (by omega) (by omega), ih k (i + 1) _ (by omega) (by omega) (by rw [List.length_set]; exact hx) (by omega)]
    have hi' : i < x.length := by omega
    have e1 : ∀ v, (x.set (i : Int).toNat v).take (i + 1) = x.take i ++ [v] := fun v => by
      rw [show (i : Int).toNat = i from rfl, List.take_add_one, List.take_set_of_le (Nat.le_refl i), List.getElem?_set_self hi']
      rfl
    rw [e1, drop166 a i hia]
    simp [conv]
theorem toTurns_is (a : Int) (l : List S166) (t : Int) (hn : l.length ≤ 1048576) (hl : ∀ q ∈ l, q.f0.length ≤ 1048576) (k : Nat) (hk : 2097152 < k) : laws_toTurns.f k a l t = some (a, l.map conv, t) := by
  unfold laws_toTurns.f laws_toQueueS.f
  rw [if_pos (by omega), if_pos (by omega)]
  have := toQueueS_l0 l hn hl l.length k 0 (List.replicate l.length z110) (by omega) (by omega) (by simp) (by omega)
  rw [show ((l.length : Int)).toNat = l.length from rfl, show (0 : Int) = ((0 : Nat) : Int) from rfl, this]
  simp
theorem eqQueueS_l0 (a : List S110) (hn : a.length ≤ 1048576) (hl : ∀ q ∈ a, q.f0.length ≤ 1048576) (d : Nat) : ∀ (k i : Nat), a.length - i = d → 1048576 + d < k → laws_eqQueueS.l0 k a a (i : Int) = some true := by
  induction d with
  | zero =>
    intro k i hd hk
    obtain ⟨k, rfl⟩ : ∃ m, k = m + 1 := ⟨k - 1, by omega⟩
    simp only [laws_eqQueueS.l0]
    rw [if_neg (by omega)]
  | succ d ih =>
    intro k i hd hk
    obtain ⟨k, rfl⟩ : ∃ m, k = m + 1 := ⟨k - 1, by omega⟩
    have hm := hl _ (rd110_mem a i (by omega))
    simp only [laws_eqQueueS.l0]
    unfold laws_eqQueue.f
    rw [if_pos (by omega), if_pos (by omega), if_pos (by omega), eqIntS_same _ (by omega) k (by omega)]
    simp only [Option.bind_some, if_true]
    rw [wrap_succ (n := a.length) (by omega) (by omega)]
    exact ih k (i + 1) (by omega) (by omega)
theorem eqTurns_same (a : Int) (l : List S110) (t : Int) (hn : l.length ≤ 1048576) (hl : ∀ q ∈ l, q.f0.length ≤ 1048576) (k : Nat) (hk : 2097152 < k) : laws_eqTurns.f k a l t a l t = some true := by
  unfold laws_eqTurns.f laws_eqQueueS.f
  rw [if_pos rfl, if_pos rfl, show (0 : Int) = ((0 : Nat) : Int) from rfl, eqQueueS_l0 l hn hl l.length k 0 (by omega) (by omega)]
  simp only [Option.bind_some, if_true]
theorem sin_is (a b c : Int) : spec_l1In.f a b c = some (decide (b ≤ a ∧ a ≤ c)) := by
  unfold spec_l1In.f
  by_cases h : a ≥ b
  · have h' : b ≤ a := h
    simp [h']
  · have h' : ¬ b ≤ a := h
    simp [h']
theorem iin_is (a b c : Int) : impl_within.f a b c = some (decide (b ≤ a ∧ a ≤ c)) := by
  unfold impl_within.f
  by_cases h : b ≤ a <;> simp [h]
theorem itime_is (a : Int) : impl_isTime.f a = some (decide (0 ≤ a ∧ a ≤ 1000000)) := by
  unfold impl_isTime.f
  rw [iin_is]
  rfl
def GQ (q : S110) : Prop := (∀ x ∈ q.f0, 1 ≤ x ∧ x ≤ 50) ∧ q.f0.length ≤ 40 ∧ (0 ≤ q.f1 ∧ q.f1 ≤ 100) ∧ (0 ≤ q.f2 ∧ q.f2 ≤ 1000000) ∧ (q.f0.length = 0 → q.f1 = 0)
noncomputable instance (q : S110) : Decidable (GQ q) := Classical.propDecidable _
def GT (a : Int) (l : List S110) (t : Int) : Prop := (∀ q ∈ l, GQ q) ∧ (1 ≤ a ∧ a ≤ 50) ∧ (1 ≤ (l.length : Int) ∧ (l.length : Int) ≤ 6) ∧ (0 ≤ t ∧ t ≤ 1000000)
noncomputable instance (a : Int) (l : List S110) (t : Int) : Decidable (GT a l t) := Classical.propDecidable _
theorem squeue_l0 (x : List Int) (f1 f2 : Int) (hn : x.length ≤ 1048576) (d : Nat) : ∀ (k i : Nat), x.length - i = d → i ≤ x.length → d < k →
    spec_l14Queue.l0 k x (x.length : Int) (i : Int) x f1 f2 = some (decide ((∀ y ∈ x.drop i, 1 ≤ y ∧ y ≤ 50) ∧ x.length ≤ 40 ∧ (0 ≤ f1 ∧ f1 ≤ 100) ∧ (0 ≤ f2 ∧ f2 ≤ 1000000) ∧ (x.length = 0 → f1 = 0))) := by
  induction d with
  | zero =>
    intro k i hd hi hk
    obtain ⟨k, rfl⟩ : ∃ m, k = m + 1 := ⟨k - 1, by omega⟩
    simp only [spec_l14Queue.l0]
    rw [if_neg (by omega), List.drop_of_length_le (by omega), sin_is, sin_is]
    simp only [Option.bind_some, decide_eq_true_eq]
    by_cases c1 : (x.length : Int) ≤ 40
    · rw [if_pos c1]
      by_cases c2 : 0 ≤ f1 ∧ f1 ≤ 100
      · rw [if_pos c2]
        by_cases c3 : 0 ≤ f2 ∧ f2 ≤ 1000000
        · rw [if_pos c3]
          by_cases c4 : (x.length : Int) > 0
          · rw [if_pos c4]
            congr 1
            refine (decide_eq_true ⟨(by simp), by omega, c2, c3, by omega⟩).symm
          · rw [if_neg c4]
            congr 1
            rw [Bool.eq_iff_iff, decide_eq_true_eq, beq_iff_eq]
            exact ⟨fun h => ⟨by simp, by omega, c2, c3, fun _ => h⟩, fun h => h.2.2.2.2 (by omega)⟩
        · rw [if_neg c3]
          congr 1
          exact (decide_eq_false fun h => c3 h.2.2.2.1).symm
      · rw [if_neg c2]
        congr 1
        exact (decide_eq_false fun h => c2 h.2.2.1).symm
    · rw [if_neg c1]
      congr 1
      exact (decide_eq_false fun h => c1 (by omega)).symm
  | succ d ih =>
    intro k i hd hi hk
    obtain ⟨k, rfl⟩ : ∃ m, k = m + 1 := ⟨k - 1, by omega⟩
    simp only [spec_l14Queue.l0]
    rw [if_pos (by omega), if_pos (by omega), if_pos (by omega), sin_is, wrap_succ (n := x.length) (by omega) (by omega), ih k (i + 1) (by omega) (by omega) (by omega)]
    simp only [Option.bind_some, decide_eq_true_eq]
    rw [dropInt x i (by omega)]
    by_cases c : 1 ≤ rd x (i : Int) ∧ rd x (i : Int) ≤ 50
    · rw [if_pos c]
      simp only [List.forall_mem_cons, c, true_and, and_self]
    · rw [if_neg c]
      congr 1
      exact (decide_eq_false fun h => c (h.1 _ (List.mem_cons_self))).symm
theorem squeue_is (q : S110) (hn : q.f0.length ≤ 1048576) (k : Nat) (hk : 1048576 < k) : spec_l14Queue.f k q.f0 q.f1 q.f2 = some (decide (GQ q)) := by
  unfold spec_l14Queue.f
  rw [show (0 : Int) = ((0 : Nat) : Int) from rfl, squeue_l0 q.f0 q.f1 q.f2 hn q.f0.length k 0 (by omega) (by omega) (by omega)]
  exact congrArg some (decide_eq_decide.mpr (by rw [List.drop_zero]; exact Iff.rfl))
theorem sgood_l0 (l : List S110) (a t : Int) (hn : l.length ≤ 1048576) (hl : ∀ q ∈ l, q.f0.length ≤ 1048576) (d : Nat) : ∀ (k i : Nat), l.length - i = d → i ≤ l.length → 1048576 + d < k →
    spec_GoodTurns.l0 k l (l.length : Int) (i : Int) a l t = some (decide ((∀ q ∈ l.drop i, GQ q) ∧ (1 ≤ a ∧ a ≤ 50) ∧ (1 ≤ (l.length : Int) ∧ (l.length : Int) ≤ 6) ∧ (0 ≤ t ∧ t ≤ 1000000))) := by
  induction d with
  | zero =>
    intro k i hd hi hk
    obtain ⟨k, rfl⟩ : ∃ m, k = m + 1 := ⟨k - 1, by omega⟩
    simp only [spec_GoodTurns.l0]
    rw [if_neg (by omega), List.drop_of_length_le (by omega), sin_is, sin_is, sin_is]
    simp only [Option.bind_some, decide_eq_true_eq]
    by_cases c1 : 1 ≤ a ∧ a ≤ 50
    · rw [if_pos c1]
      by_cases c2 : 1 ≤ (l.length : Int) ∧ (l.length : Int) ≤ 6
      · rw [if_pos c2]
        congr 1
        rw [Bool.eq_iff_iff, decide_eq_true_eq, decide_eq_true_eq]
        exact ⟨fun h => ⟨by simp, c1, c2, h⟩, fun h => h.2.2.2⟩
      · rw [if_neg c2]
        congr 1
        exact (decide_eq_false fun h => c2 h.2.2.1).symm
    · rw [if_neg c1]
      congr 1
      exact (decide_eq_false fun h => c1 h.2.1).symm
  | succ d ih =>
    intro k i hd hi hk
    obtain ⟨k, rfl⟩ : ∃ m, k = m + 1 := ⟨k - 1, by omega⟩
    simp only [spec_GoodTurns.l0]
    rw [if_pos (by omega), if_pos (by omega), if_pos (by omega), squeue_is _ (hl _ (rd110_mem l i (by omega))) k (by omega), wrap_succ (n := l.length) (by omega) (by omega), ih k (i + 1) (by omega) (by omega) (by omega)]
    simp only [Option.bind_some, decide_eq_true_eq]
    rw [drop110 l i (by omega)]
    by_cases c : GQ (rd_T110 l (i : Int))
    · rw [if_pos c]
      simp only [List.forall_mem_cons, c, true_and]
    · rw [if_neg c]
      congr 1
      exact (decide_eq_false fun h => c (h.1 _ (List.mem_cons_self))).symm
theorem sgoodT_is (a : Int) (l : List S110) (t : Int) (hn : l.length ≤ 1048576) (hl : ∀ q ∈ l, q.f0.length ≤ 1048576) (k : Nat) (hk : 2097152 < k) : spec_GoodTurns.f k a l t = some (decide (GT a l t)) := by
  unfold spec_GoodTurns.f
  rw [show (0 : Int) = ((0 : Nat) : Int) from rfl, sgood_l0 l a t hn hl l.length k 0 (by omega) (by omega) (by omega)]
  exact congrArg some (decide_eq_decide.mpr (by rw [List.drop_zero]; exact Iff.rfl))
theorem ilit_is (a : Int) : impl_GoodTurns_lit1.f a = some (!decide (1 ≤ a ∧ a ≤ 50)) := by
  unfold impl_GoodTurns_lit1.f
  rw [iin_is]
  rfl
theorem idx_l0 (x : List Int) (hn : x.length ≤ 1048576) (d : Nat) : ∀ (i : Nat), x.length - i = d → i ≤ x.length →
    ∃ r : Int, (r ≥ 0 ↔ ¬ ∀ y ∈ x.drop i, 1 ≤ y ∧ y ≤ 50) ∧ ∀ k, d < k → slices_IndexFunc_int_int_impl_GoodTurns_lit1.l0 k x (x.length : Int) (i : Int) = some r := by
  induction d with
  | zero =>
    intro i hd hi
    refine ⟨-1, ?_, fun k hk => ?_⟩
    · rw [List.drop_of_length_le (by omega)]
      simp
    · obtain ⟨k, rfl⟩ : ∃ m, k = m + 1 := ⟨k - 1, by omega⟩
      simp only [slices_IndexFunc_int_int_impl_GoodTurns_lit1.l0]
      rw [if_neg (by omega)]
  | succ d ih =>
    intro i hd hi
    by_cases c : 1 ≤ rd x (i : Int) ∧ rd x (i : Int) ≤ 50
    · obtain ⟨r, hr, h2⟩ := ih (i + 1) (by omega) (by omega)
      refine ⟨r, ?_, fun k hk => ?_⟩
      · rw [hr, dropInt x i (by omega)]
        simp only [List.forall_mem_cons, c, true_and, and_self]
      · obtain ⟨k, rfl⟩ : ∃ m, k = m + 1 := ⟨k - 1, by omega⟩
        simp only [slices_IndexFunc_int_int_impl_GoodTurns_lit1.l0]
        rw [if_pos (by omega), if_pos (by omega), if_pos (by omega), ilit_is, wrap_succ (n := x.length) (by omega) (by omega)]
        simp only [Option.bind_some, c, and_self, decide_true, Bool.not_true, Bool.false_eq_true, if_false]
        exact h2 k (by omega)
    · refine ⟨(i : Int), ?_, fun k hk => ?_⟩
      · rw [dropInt x i (by omega)]
        exact ⟨fun _ h => c (h _ List.mem_cons_self), fun _ => by omega⟩
      · obtain ⟨k, rfl⟩ : ∃ m, k = m + 1 := ⟨k - 1, by omega⟩
        simp only [slices_IndexFunc_int_int_impl_GoodTurns_lit1.l0]
        rw [if_pos (by omega), if_pos (by omega), if_pos (by omega), ilit_is, decide_eq_false c]
        simp only [Option.bind_some, Bool.not_false, if_true]
theorem cont_is (x : List Int) (hn : x.length ≤ 1048576) (k : Nat) (hk : 1048576 < k) : slices_ContainsFunc_int_int_impl_GoodTurns_lit1.f k x = some (decide (¬ ∀ y ∈ x, 1 ≤ y ∧ y ≤ 50)) := by
  unfold slices_ContainsFunc_int_int_impl_GoodTurns_lit1.f slices_IndexFunc_int_int_impl_GoodTurns_lit1.f
  obtain ⟨r, hr, e⟩ := idx_l0 x hn x.length 0 (by omega) (by omega)
  rw [show (0 : Int) = ((0 : Nat) : Int) from rfl, e k (by omega)]
  simp only [Option.bind_some]
  rw [List.drop_zero] at hr
  congr 1
  rw [Bool.eq_iff_iff, decide_eq_true_eq, decide_eq_true_eq]
  exact hr
theorem igood_l0 (l : List S110) (hn : l.length ≤ 1048576) (hl : ∀ q ∈ l, q.f0.length ≤ 1048576) (d : Nat) : ∀ (k i : Nat), l.length - i = d → i ≤ l.length → 1048576 + d < k →
    impl_GoodTurns.l0 k l (l.length : Int) (i : Int) = some (decide (∀ q ∈ l.drop i, GQ q)) := by
  induction d with
  | zero =>
    intro k i hd hi hk
    obtain ⟨k, rfl⟩ : ∃ m, k = m + 1 := ⟨k - 1, by omega⟩
    simp only [impl_GoodTurns.l0]
    rw [if_neg (by omega), List.drop_of_length_le (by omega)]
    exact congrArg some (decide_eq_true (by simp)).symm
  | succ d ih =>
    intro k i hd hi hk
    obtain ⟨k, rfl⟩ : ∃ m, k = m + 1 := ⟨k - 1, by omega⟩
    have hq := hl _ (rd110_mem l i (by omega))
    simp only [impl_GoodTurns.l0]
    rw [if_pos (by omega), if_pos (by omega), if_pos (by omega), cont_is _ hq k (by omega), iin_is, itime_is, wrap_succ (n := l.length) (by omega) (by omega), ih k (i + 1) (by omega) (by omega) (by omega), drop110 l i (by omega)]
    generalize rd_T110 l (i : Int) = q at hq ⊢
    simp only [Option.bind_some, decide_eq_true_eq]
    have no : ∀ (I : Decidable (∀ y ∈ q :: l.drop (i + 1), GQ y)), ¬ GQ q → some false = some (@decide _ I) := fun I c => by
      exact congrArg some (decide_eq_false fun h => c (h _ List.mem_cons_self)).symm
    have yes : ∀ (J : Decidable (∀ y ∈ l.drop (i + 1), GQ y)) (I : Decidable (∀ y ∈ q :: l.drop (i + 1), GQ y)), GQ q → some (@decide _ J) = some (@decide _ I) := fun J I c => congrArg some (decide_eq_decide.mpr (by simp only [List.forall_mem_cons, c, true_and]))
    by_cases c1 : (q.f0.length : Int) > 40
    · rw [if_pos c1]
      exact no _ fun h => by have := h.2.1; omega
    · rw [if_neg c1]
      by_cases c2 : ∀ y ∈ q.f0, 1 ≤ y ∧ y ≤ 50
      · rw [if_neg (fun h => h c2)]
        by_cases c3 : 0 ≤ q.f1 ∧ q.f1 ≤ 100
        · rw [if_pos c3]
          by_cases c4 : 0 ≤ q.f2 ∧ q.f2 ≤ 1000000
          · rw [if_pos c4]
            by_cases c5 : (q.f0.length : Int) = 0
            · rw [if_pos c5]
              by_cases c6 : q.f1 = 0
              · rw [if_pos c6]
                exact yes _ _ ⟨c2, by omega, c3, c4, fun _ => c6⟩
              · rw [if_neg c6]
                exact no _ fun h => c6 (h.2.2.2.2 (by omega))
            · rw [if_neg c5]
              exact yes _ _ ⟨c2, by omega, c3, c4, fun h => by omega⟩
          · rw [if_neg c4]
            exact no _ fun h => c4 h.2.2.2.1
        · rw [if_neg c3]
          exact no _ fun h => c3 h.2.2.1
      · rw [if_pos c2]
        exact no _ fun h => c2 h.1
theorem igoodT_is (a : Int) (l : List S110) (t : Int) (hn : l.length ≤ 1048576) (hl : ∀ q ∈ l, q.f0.length ≤ 1048576) (k : Nat) (hk : 2097153 < k) : impl_GoodTurns.f k a l t = some (decide (GT a l t)) := by
  unfold impl_GoodTurns.f
  obtain ⟨k, rfl⟩ : ∃ m, k = m + 1 := ⟨k - 1, by omega⟩
  rw [iin_is, iin_is, itime_is]
  simp only [Option.bind_some, decide_eq_true_eq, impl_GoodTurns.j0, if_true]
  have no : ¬ GT a l t → some false = some (decide (GT a l t)) := fun c => by rw [decide_eq_false c]
  by_cases c1 : 1 ≤ a ∧ a ≤ 50
  · rw [if_pos c1]
    by_cases c2 : 1 ≤ (l.length : Int) ∧ (l.length : Int) ≤ 6
    · rw [if_pos c2]
      by_cases c3 : 0 ≤ t ∧ t ≤ 1000000
      · rw [decide_eq_true c3, if_neg (by decide), show (0 : Int) = ((0 : Nat) : Int) from rfl, igood_l0 l hn hl l.length k 0 (by omega) (by omega) (by omega), List.drop_zero]
        congr 1
        rw [Bool.eq_iff_iff, decide_eq_true_eq, decide_eq_true_eq]
        exact ⟨fun h => ⟨h, c1, c2, c3⟩, fun h => h.1⟩
      · rw [decide_eq_false c3, if_pos (by decide)]
        exact no fun h => c3 h.2.2.2
    · rw [if_neg c2]
      exact no fun h => c2 h.2.2.1
  · rw [if_neg c1]
    exact no fun h => c1 h.2.1

theorem FnExactGoodTurns : laws_FnExactGoodTurns.Stmt := by
  intro a l t ⟨_, ⟨hn, hl⟩, _⟩
  refine ⟨2097200, ?_⟩
  unfold laws_FnExactGoodTurns.f
  obtain ⟨r, hr, e⟩ := szTurns_is a l t hn (fun q hq => (hl q hq).1.1)
  rw [e _ (by omega)]
  simp only [Option.bind_some]
  by_cases c : r < 0
  · rw [if_pos c]
  · rw [if_neg c]
    rcases hr with hr | ⟨h1, h2⟩
    · exact absurd hr c
    · have h1' : (l.map conv).length ≤ 1048576 := by simpa using h1
      have h2' : ∀ q ∈ l.map conv, q.f0.length ≤ 1048576 := by
        intro q hq
        obtain ⟨p, hp, rfl⟩ := List.mem_map.mp hq
        exact h2 p hp
      rw [toTurns_is a l t h1 h2 _ (by omega)]
      simp only [Option.bind_some]
      rw [sgoodT_is _ _ _ h1' h2' _ (by omega), igoodT_is _ _ _ h1' h2' _ (by omega), eqTurns_same _ _ _ h1' h2' _ (by omega)]
      simp

end Go.Proofs.Ytnphabcbnpenjaa.Pure
