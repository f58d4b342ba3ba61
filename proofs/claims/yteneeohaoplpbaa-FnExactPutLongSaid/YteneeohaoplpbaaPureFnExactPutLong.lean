/- The program's PutLong returns what the reference's returns, for all arguments. -/
import Derived.Test.YteneeohaoplpbaaXFnExactPutLongx7
set_option linter.unusedVariables false
set_option linter.unusedSimpArgs false
namespace Go.Proofs.Yteneeohaoplpbaa.Pure
open Go.RowKit Go.Proofs.Yteneeohaoplpbaa.XFnExactPutLong Go.Proofs.YteneeohaoplpbaaW.PrintWords Go.Proofs.YteneeohaoplpbaaW.PrintLast Go.Proofs.YteneeohaoplpbaaW.PrintMore

/-- What is to be shown of FnExactPutLong, in numbers and lists alone. -/
def laws_FnExactPutLong.Stmt : Prop := ∀ (a0_0 : Int) (l0_1 : List (S167)) (a0_2 : Int) (a1 : Int) (a2 : Int), (((Lit.int .i64 a0_0).wf = true) ∧ (l0_1.length ≤ maxLen ∧ ∀ x ∈ l0_1, (x.f0.length ≤ maxLen ∧ ∀ x' ∈ x.f0, (Lit.int .i64 x').wf = true) ∧ ((Lit.int .i64 x.f1).wf = true) ∧ ((Lit.int .i64 x.f2).wf = true)) ∧ ((Lit.int .i64 a0_2).wf = true)) → ((Lit.int .i64 a1).wf = true) → ((Lit.int .i64 a2).wf = true) → ∃ k, laws_FnExactPutLong.f k a0_0 l0_1 a0_2 a1 a2 = some true

theorem wrap_in {x : Int} (h0 : -9223372036854775808 ≤ x) (h1 : x ≤ 9223372036854775807) : wrap64 x = x := by
  unfold wrap64
  omega
theorem wrap_succ {i n : Nat} (h : i < n) (hn : n ≤ 9223372036854775807) : wrap64 ((i : Int) + 1) = ((i + 1 : Nat) : Int) := by
  rw [wrap_in (by omega) (by omega)]
  omega

theorem eqIntS_l0 (a : List Int) (hn : a.length ≤ 9223372036854775807) (d : Nat) : ∀ (k i : Nat), a.length - i = d → d < k → laws_eqIntS.l0 k a a (i : Int) = some true := by
  induction d with
  | zero =>
    intro k i hd hk
    obtain ⟨k, rfl⟩ : ∃ m, k = m + 1 := ⟨k - 1, by omega⟩
    simp only [laws_eqIntS.l0]
    rw [if_neg (by omega)]
  | succ d ih =>
    intro k i hd hk
    obtain ⟨k, rfl⟩ : ∃ m, k = m + 1 := ⟨k - 1, by omega⟩
    simp only [laws_eqIntS.l0]
    rw [if_pos (by omega), if_pos (by omega), if_pos (by omega), if_pos trivial, wrap_succ (n := a.length) (by omega) hn]
    exact ih k (i + 1) (by omega) (by omega)
theorem eqIntS_same (a : List Int) (hn : a.length ≤ 9223372036854775807) (k : Nat) (hk : a.length < k) : laws_eqIntS.f k a a = some true := by
  unfold laws_eqIntS.f
  rw [if_pos rfl]
  exact eqIntS_l0 a hn a.length k 0 (by omega) hk

theorem toIntS_l0 (a : List Int) (hn : a.length ≤ 9223372036854775807) (d : Nat) : ∀ (k i : Nat) (x : List Int), a.length - i = d → i ≤ a.length → x.length = a.length → d < k → laws_toIntS.l0 k a x (i : Int) = some (x.take i ++ a.drop i) := by
  induction d with
  | zero =>
    intro k i x hd hi hx hk
    obtain ⟨k, rfl⟩ : ∃ m, k = m + 1 := ⟨k - 1, by omega⟩
    simp only [laws_toIntS.l0]
    rw [if_neg (by omega), List.take_of_length_le (by omega), List.drop_of_length_le (by omega), List.append_nil]
  | succ d ih =>
    intro k i x hd hi hx hk
    obtain ⟨k, rfl⟩ : ∃ m, k = m + 1 := ⟨k - 1, by omega⟩
    simp only [laws_toIntS.l0]
    rw [if_pos (by omega), if_pos (by omega), if_pos (by omega), wrap_succ (n := a.length) (by omega) hn, ih k (i + 1) _ (by omega) (by omega) (by rw [List.length_set]; exact hx) (by omega)]
    have hi' : i < x.length := by omega
    have hia : i < a.length := by omega
    have e1 : (x.set (i : Int).toNat (rd a (i : Int))).take (i + 1) = x.take i ++ [rd a (i : Int)] := by
      rw [show (i : Int).toNat = i from rfl, List.take_add_one, List.take_set_of_le (Nat.le_refl i), List.getElem?_set_self hi']
      rfl
    have e2 : a.drop i = rd a (i : Int) :: a.drop (i + 1) := by
      rw [List.drop_eq_getElem_cons hia]
      unfold rd
      simp [List.getD_eq_getElem?_getD, List.getElem?_eq_getElem hia]
    rw [e1, e2]
    simp
theorem toIntS_is (a : List Int) (hn : a.length ≤ 35184372088832) (k : Nat) (hk : a.length < k) : laws_toIntS.f k a = some a := by
  unfold laws_toIntS.f
  rw [if_pos (by omega), if_pos (by simpa using hn)]
  have := toIntS_l0 a (by omega) a.length k 0 (List.replicate a.length 0) (by omega) (by omega) (by simp) hk
  simpa using this

theorem rd110_mem (l : List S116) (i : Nat) (h : i < l.length) : rd_T116 l (i : Int) ∈ l := by
  unfold rd_T116
  rw [show (i : Int).toNat = i from rfl, List.getD_eq_getElem?_getD, List.getElem?_eq_getElem h]
  exact List.getElem_mem h
theorem drop110 (l : List S116) (i : Nat) (h : i < l.length) : l.drop i = rd_T116 l (i : Int) :: l.drop (i + 1) := by
  rw [List.drop_eq_getElem_cons h]
  unfold rd_T116
  simp [List.getD_eq_getElem?_getD, List.getElem?_eq_getElem h]
theorem rd166_mem (l : List S167) (i : Nat) (h : i < l.length) : rd_T167 l (i : Int) ∈ l := by
  unfold rd_T167
  rw [show (i : Int).toNat = i from rfl, List.getD_eq_getElem?_getD, List.getElem?_eq_getElem h]
  exact List.getElem_mem h
theorem drop166 (l : List S167) (i : Nat) (h : i < l.length) : l.drop i = rd_T167 l (i : Int) :: l.drop (i + 1) := by
  rw [List.drop_eq_getElem_cons h]
  unfold rd_T167
  simp [List.getD_eq_getElem?_getD, List.getElem?_eq_getElem h]
theorem dropInt (l : List Int) (i : Nat) (h : i < l.length) : l.drop i = rd l (i : Int) :: l.drop (i + 1) := by
  rw [List.drop_eq_getElem_cons h]
  unfold rd
  simp [List.getD_eq_getElem?_getD, List.getElem?_eq_getElem h]
/-- The copy of a row of queues. -/
def conv (q : S167) : S116 := ⟨q.f0, q.f1, q.f2⟩
theorem szInt_is (l : List Int) (m : Int) (h : l.length ≤ maxLen) (hm : 0 ≤ m) (hm1 : m ≤ 1048576) : ∃ r : Int, laws_szIntS.f l m = some r ∧ (r < 0 ∨ ((l.length : Int) ≤ m ∧ r = m - l.length)) := by
  have h0 : l.length ≤ 9223372036854775807 := Nat.le_trans h (by decide)
  unfold laws_szIntS.f
  rw [wrap_in (by omega) (by omega)]
  by_cases c : m - (l.length : Int) < 0
  · rw [if_pos c]
    exact ⟨_, rfl, Or.inl (by omega)⟩
  · rw [if_neg c]
    exact ⟨_, rfl, Or.inr ⟨by omega, rfl⟩⟩
theorem szQueue_is (l : List Int) (b c m : Int) (h : l.length ≤ maxLen) (hm : 0 ≤ m) (hm1 : m ≤ 1048576) : ∃ r : Int, laws_szQueue.f l b c m = some r ∧ (r < 0 ∨ ((l.length : Int) ≤ m ∧ r = m - l.length)) := by
  obtain ⟨r, e, hr⟩ := szInt_is l m h hm hm1
  unfold laws_szQueue.f
  rw [e]
  simp only [Option.bind_some]
  by_cases c : r < 0
  · rw [if_pos c]
    exact ⟨_, rfl, Or.inl (by omega)⟩
  · rw [if_neg c]
    exact ⟨_, rfl, hr⟩
theorem szQueueS_l0 (l : List S167) (hl : ∀ q ∈ l, q.f0.length ≤ maxLen) (hn : l.length ≤ 1048576) (d : Nat) : ∀ (i : Nat) (m : Int), l.length - i = d → 0 ≤ m → m ≤ 1048576 →
    ∃ r : Int, (r < 0 ∨ ∀ q ∈ l.drop i, (q.f0.length : Int) ≤ m) ∧ ∀ k, d < k → laws_szQueueS.l0 k l m (i : Int) = some r := by
  induction d with
  | zero =>
    intro i m hd h0 h1
    refine ⟨m, Or.inr ?_, fun k hk => ?_⟩
    · rw [List.drop_of_length_le (by omega)]
      intro q hq
      cases hq
    · obtain ⟨k, rfl⟩ : ∃ m, k = m + 1 := ⟨k - 1, by omega⟩
      simp only [laws_szQueueS.l0]
      rw [if_neg (by omega)]
  | succ d ih =>
    intro i m hd h0 h1
    have hi : i < l.length := by omega
    obtain ⟨r, e, hr⟩ := szQueue_is (rd_T167 l (i : Int)).f0 (rd_T167 l (i : Int)).f1 (rd_T167 l (i : Int)).f2 m (hl _ (rd166_mem l i hi)) h0 h1
    by_cases c : r < 0
    · refine ⟨-1, Or.inl (by omega), fun k hk => ?_⟩
      obtain ⟨k, rfl⟩ : ∃ m, k = m + 1 := ⟨k - 1, by omega⟩
      simp only [laws_szQueueS.l0]
      rw [if_pos (by omega), if_pos (by omega), e]
      simp only [Option.bind_some]
      rw [if_pos c]
    · obtain ⟨r2, hr2, h2⟩ := ih (i + 1) r (by omega) (by omega) (by omega)
      refine ⟨r2, ?_, fun k hk => ?_⟩
      · rcases hr2 with h | h
        · exact Or.inl h
        · refine Or.inr ?_
          rw [drop166 l i hi]
          intro q hq
          rcases List.mem_cons.mp hq with rfl | hq
          · omega
          · have := h q hq
            omega
      · obtain ⟨k, rfl⟩ : ∃ m, k = m + 1 := ⟨k - 1, by omega⟩
        simp only [laws_szQueueS.l0]
        rw [if_pos (by omega), if_pos (by omega), e]
        simp only [Option.bind_some]
        rw [if_neg c, wrap_succ (n := l.length) (by omega) (by omega)]
        exact h2 k (by omega)
theorem szTurns_is (a : Int) (l : List S167) (t : Int) (h : l.length ≤ maxLen) (hl : ∀ q ∈ l, q.f0.length ≤ maxLen) :
    ∃ r : Int, (r < 0 ∨ (l.length ≤ 1048576 ∧ ∀ q ∈ l, q.f0.length ≤ 1048576)) ∧ ∀ k, 1048577 < k → laws_szTurns.f k a l t 1048576 = some r := by
  have h0 : l.length ≤ 9223372036854775807 := Nat.le_trans h (by decide)
  unfold laws_szTurns.f laws_szQueueS.f
  rw [wrap_in (by omega) (by omega)]
  by_cases c : 1048576 - (l.length : Int) < 0
  · refine ⟨-1, Or.inl (by omega), fun k _ => ?_⟩
    rw [if_pos c]
    simp only [Option.bind_some]
    rw [if_pos (by omega)]
  · obtain ⟨r, hr, e⟩ := szQueueS_l0 l hl (by omega) l.length 0 (1048576 - (l.length : Int)) (by omega) (by omega) (by omega)
    by_cases c2 : r < 0
    · refine ⟨-1, Or.inl (by omega), fun k hk => ?_⟩
      rw [if_neg c, show (0 : Int) = ((0 : Nat) : Int) from rfl, e k (by omega)]
      simp only [Option.bind_some]
      rw [if_pos (by omega)]
    · refine ⟨r, Or.inr ⟨by omega, fun q hq => ?_⟩, fun k hk => ?_⟩
      · rcases hr with h | h
        · exact absurd h c2
        · have := h q (by simpa using hq)
          omega
      · rw [if_neg c, show (0 : Int) = ((0 : Nat) : Int) from rfl, e k (by omega)]
        simp only [Option.bind_some]
        rw [if_neg (by omega)]
theorem toQueue_is (l : List Int) (b c : Int) (h : l.length ≤ 1048576) (k : Nat) (hk : 1048576 < k) : laws_toQueue.f k l b c = some (l, b, c) := by
  unfold laws_toQueue.f
  rw [toIntS_is l (by omega) k (by omega)]
  rfl
theorem toQueueS_l0 (a : List S167) (hn : a.length ≤ 1048576) (hl : ∀ q ∈ a, q.f0.length ≤ 1048576) (d : Nat) : ∀ (k i : Nat) (x : List S116), a.length - i = d → i ≤ a.length → x.length = a.length → 1048576 + d < k → laws_toQueueS.l0 k a x (i : Int) = some (x.take i ++ (a.drop i).map conv) := by
  induction d with
  | zero =>
    intro k i x hd hi hx hk
    obtain ⟨k, rfl⟩ : ∃ m, k = m + 1 := ⟨k - 1, by omega⟩
    simp only [laws_toQueueS.l0]
    rw [if_neg (by omega), List.take_of_length_le (by omega), List.drop_of_length_le (by omega), List.map_nil, List.append_nil]
  | succ d ih =>
    intro k i x hd hi hx hk
    have hia : i < a.length := by omega
    obtain ⟨k, rfl⟩ : ∃ m, k = m + 1 := ⟨k - 1, by omega⟩
    simp only [laws_toQueueS.l0]
    rw [if_pos (by omega), if_pos (by omega), toQueue_is _ _ _ (hl _ (rd166_mem a i hia)) k (by omega)]
    simp only [Option.bind_some]
    rw [if_pos (by omega), wrap_succ (n := a.length) (by omega) (by omega), ih k (i + 1) _ (by omega) (by omega) (by rw [List.length_set]; exact hx) (by omega)]
    have hi' : i < x.length := by omega
    have e1 : ∀ v, (x.set (i : Int).toNat v).take (i + 1) = x.take i ++ [v] := fun v => by
      rw [show (i : Int).toNat = i from rfl, List.take_add_one, List.take_set_of_le (Nat.le_refl i), List.getElem?_set_self hi']
      rfl
    rw [e1, drop166 a i hia]
    simp [conv]
theorem toTurns_is (a : Int) (l : List S167) (t : Int) (hn : l.length ≤ 1048576) (hl : ∀ q ∈ l, q.f0.length ≤ 1048576) (k : Nat) (hk : 2097152 < k) : laws_toTurns.f k a l t = some (a, l.map conv, t) := by
  unfold laws_toTurns.f laws_toQueueS.f
  rw [if_pos (by omega), if_pos (by omega)]
  have := toQueueS_l0 l hn hl l.length k 0 (List.replicate l.length z116) (by omega) (by omega) (by simp) (by omega)
  rw [show ((l.length : Int)).toNat = l.length from rfl, show (0 : Int) = ((0 : Nat) : Int) from rfl, this]
  simp
theorem eqQueueS_l0 (a : List S116) (hn : a.length ≤ 1048576) (hl : ∀ q ∈ a, q.f0.length ≤ 1048576) (d : Nat) : ∀ (k i : Nat), a.length - i = d → 1048576 + d < k → laws_eqQueueS.l0 k a a (i : Int) = some true := by
  induction d with
  | zero =>
    intro k i hd hk
    obtain ⟨k, rfl⟩ : ∃ m, k = m + 1 := ⟨k - 1, by omega⟩
    simp only [laws_eqQueueS.l0]
    rw [if_neg (by omega)]
  | succ d ih =>
    intro k i hd hk
    obtain ⟨k, rfl⟩ : ∃ m, k = m + 1 := ⟨k - 1, by omega⟩
    have hm := hl _ (rd110_mem a i (by omega))
    simp only [laws_eqQueueS.l0]
    unfold laws_eqQueue.f
    rw [if_pos (by omega), if_pos (by omega), if_pos (by omega), eqIntS_same _ (by omega) k (by omega)]
    simp only [Option.bind_some, if_true]
    rw [wrap_succ (n := a.length) (by omega) (by omega)]
    exact ih k (i + 1) (by omega) (by omega)
theorem eqTurns_same (a : Int) (l : List S116) (t : Int) (hn : l.length ≤ 1048576) (hl : ∀ q ∈ l, q.f0.length ≤ 1048576) (k : Nat) (hk : 2097152 < k) : laws_eqTurns.f k a l t a l t = some true := by
  unfold laws_eqTurns.f laws_eqQueueS.f
  rw [if_pos rfl, if_pos rfl, show (0 : Int) = ((0 : Nat) : Int) from rfl, eqQueueS_l0 l hn hl l.length k 0 (by omega) (by omega)]
  simp only [Option.bind_some, if_true]
theorem sin_is (a b c : Int) : spec_l1In.f a b c = some (decide (b ≤ a ∧ a ≤ c)) := by
  unfold spec_l1In.f
  by_cases h : a ≥ b
  · have h' : b ≤ a := h
    simp [h']
  · have h' : ¬ b ≤ a := h
    simp [h']
theorem iin_is (a b c : Int) : impl_within.f a b c = some (decide (b ≤ a ∧ a ≤ c)) := by
  unfold impl_within.f
  by_cases h : b ≤ a <;> simp [h]
theorem itime_is (a : Int) : impl_isTime.f a = some (decide (0 ≤ a ∧ a ≤ 1000000)) := by
  unfold impl_isTime.f
  rw [iin_is]
  rfl
def GQ (q : S116) : Prop := (∀ x ∈ q.f0, 1 ≤ x ∧ x ≤ 50) ∧ q.f0.length ≤ 40 ∧ (0 ≤ q.f1 ∧ q.f1 ≤ 100) ∧ (0 ≤ q.f2 ∧ q.f2 ≤ 1000000) ∧ (q.f0.length = 0 → q.f1 = 0)
noncomputable instance (q : S116) : Decidable (GQ q) := Classical.propDecidable _
def GT (a : Int) (l : List S116) (t : Int) : Prop := (∀ q ∈ l, GQ q) ∧ (1 ≤ a ∧ a ≤ 50) ∧ (1 ≤ (l.length : Int) ∧ (l.length : Int) ≤ 6) ∧ (0 ≤ t ∧ t ≤ 1000000)
noncomputable instance (a : Int) (l : List S116) (t : Int) : Decidable (GT a l t) := Classical.propDecidable _
theorem squeue_l0 (x : List Int) (f1 f2 : Int) (hn : x.length ≤ 1048576) (d : Nat) : ∀ (k i : Nat), x.length - i = d → i ≤ x.length → d < k →
    spec_l14Queue.l0 k x (x.length : Int) (i : Int) x f1 f2 = some (decide ((∀ y ∈ x.drop i, 1 ≤ y ∧ y ≤ 50) ∧ x.length ≤ 40 ∧ (0 ≤ f1 ∧ f1 ≤ 100) ∧ (0 ≤ f2 ∧ f2 ≤ 1000000) ∧ (x.length = 0 → f1 = 0))) := by
  induction d with
  | zero =>
    intro k i hd hi hk
    obtain ⟨k, rfl⟩ : ∃ m, k = m + 1 := ⟨k - 1, by omega⟩
    simp only [spec_l14Queue.l0]
    rw [if_neg (by omega), List.drop_of_length_le (by omega), sin_is, sin_is]
    simp only [Option.bind_some, decide_eq_true_eq]
    by_cases c1 : (x.length : Int) ≤ 40
    · rw [if_pos c1]
      by_cases c2 : 0 ≤ f1 ∧ f1 ≤ 100
      · rw [if_pos c2]
        by_cases c3 : 0 ≤ f2 ∧ f2 ≤ 1000000
        · rw [if_pos c3]
          by_cases c4 : (x.length : Int) > 0
          · rw [if_pos c4]
            congr 1
            refine (decide_eq_true ⟨(by simp), by omega, c2, c3, by omega⟩).symm
          · rw [if_neg c4]
            congr 1
            rw [Bool.eq_iff_iff, decide_eq_true_eq, beq_iff_eq]
            exact ⟨fun h => ⟨by simp, by omega, c2, c3, fun _ => h⟩, fun h => h.2.2.2.2 (by omega)⟩
        · rw [if_neg c3]
          congr 1
          exact (decide_eq_false fun h => c3 h.2.2.2.1).symm
      · rw [if_neg c2]
        congr 1
        exact (decide_eq_false fun h => c2 h.2.2.1).symm
    · rw [if_neg c1]
      congr 1
      exact (decide_eq_false fun h => c1 (by omega)).symm
  | succ d ih =>
    intro k i hd hi hk
    obtain ⟨k, rfl⟩ : ∃ m, k = m + 1 := ⟨k - 1, by omega⟩
    simp only [spec_l14Queue.l0]
    rw [if_pos (by omega), if_pos (by omega), if_pos (by omega), sin_is, wrap_succ (n := x.length) (by omega) (by omega), ih k (i + 1) (by omega) (by omega) (by omega)]
    simp only [Option.bind_some, decide_eq_true_eq]
    rw [dropInt x i (by omega)]
    by_cases c : 1 ≤ rd x (i : Int) ∧ rd x (i : Int) ≤ 50
    · rw [if_pos c]
      simp only [List.forall_mem_cons, c, true_and, and_self]
    · rw [if_neg c]
      congr 1
      exact (decide_eq_false fun h => c (h.1 _ (List.mem_cons_self))).symm
theorem squeue_is (q : S116) (hn : q.f0.length ≤ 1048576) (k : Nat) (hk : 1048576 < k) : spec_l14Queue.f k q.f0 q.f1 q.f2 = some (decide (GQ q)) := by
  unfold spec_l14Queue.f
  rw [show (0 : Int) = ((0 : Nat) : Int) from rfl, squeue_l0 q.f0 q.f1 q.f2 hn q.f0.length k 0 (by omega) (by omega) (by omega)]
  exact congrArg some (decide_eq_decide.mpr (by rw [List.drop_zero]; exact Iff.rfl))
theorem sgood_l0 (l : List S116) (a t : Int) (hn : l.length ≤ 1048576) (hl : ∀ q ∈ l, q.f0.length ≤ 1048576) (d : Nat) : ∀ (k i : Nat), l.length - i = d → i ≤ l.length → 1048576 + d < k →
    spec_GoodTurns.l0 k l (l.length : Int) (i : Int) a l t = some (decide ((∀ q ∈ l.drop i, GQ q) ∧ (1 ≤ a ∧ a ≤ 50) ∧ (1 ≤ (l.length : Int) ∧ (l.length : Int) ≤ 6) ∧ (0 ≤ t ∧ t ≤ 1000000))) := by
  induction d with
  | zero =>
    intro k i hd hi hk
    obtain ⟨k, rfl⟩ : ∃ m, k = m + 1 := ⟨k - 1, by omega⟩
    simp only [spec_GoodTurns.l0]
    rw [if_neg (by omega), List.drop_of_length_le (by omega), sin_is, sin_is, sin_is]
    simp only [Option.bind_some, decide_eq_true_eq]
    by_cases c1 : 1 ≤ a ∧ a ≤ 50
    · rw [if_pos c1]
      by_cases c2 : 1 ≤ (l.length : Int) ∧ (l.length : Int) ≤ 6
      · rw [if_pos c2]
        congr 1
        rw [Bool.eq_iff_iff, decide_eq_true_eq, decide_eq_true_eq]
        exact ⟨fun h => ⟨by simp, c1, c2, h⟩, fun h => h.2.2.2⟩
      · rw [if_neg c2]
        congr 1
        exact (decide_eq_false fun h => c2 h.2.2.1).symm
    · rw [if_neg c1]
      congr 1
      exact (decide_eq_false fun h => c1 h.2.1).symm
  | succ d ih =>
    intro k i hd hi hk
    obtain ⟨k, rfl⟩ : ∃ m, k = m + 1 := ⟨k - 1, by omega⟩
    simp only [spec_GoodTurns.l0]
    rw [if_pos (by omega), if_pos (by omega), if_pos (by omega), squeue_is _ (hl _ (rd110_mem l i (by omega))) k (by omega), wrap_succ (n := l.length) (by omega) (by omega), ih k (i + 1) (by omega) (by omega) (by omega)]
    simp only [Option.bind_some, decide_eq_true_eq]
    rw [drop110 l i (by omega)]
    by_cases c : GQ (rd_T116 l (i : Int))
    · rw [if_pos c]
      simp only [List.forall_mem_cons, c, true_and]
    · rw [if_neg c]
      congr 1
      exact (decide_eq_false fun h => c (h.1 _ (List.mem_cons_self))).symm
theorem sgoodT_is (a : Int) (l : List S116) (t : Int) (hn : l.length ≤ 1048576) (hl : ∀ q ∈ l, q.f0.length ≤ 1048576) (k : Nat) (hk : 2097152 < k) : spec_GoodTurns.f k a l t = some (decide (GT a l t)) := by
  unfold spec_GoodTurns.f
  rw [show (0 : Int) = ((0 : Nat) : Int) from rfl, sgood_l0 l a t hn hl l.length k 0 (by omega) (by omega) (by omega)]
  exact congrArg some (decide_eq_decide.mpr (by rw [List.drop_zero]; exact Iff.rfl))
theorem ilit_is (a : Int) : impl_GoodTurns_lit1.f a = some (!decide (1 ≤ a ∧ a ≤ 50)) := by
  unfold impl_GoodTurns_lit1.f
  rw [iin_is]
  rfl
theorem idx_l0 (x : List Int) (hn : x.length ≤ 1048576) (d : Nat) : ∀ (i : Nat), x.length - i = d → i ≤ x.length →
    ∃ r : Int, (r ≥ 0 ↔ ¬ ∀ y ∈ x.drop i, 1 ≤ y ∧ y ≤ 50) ∧ ∀ k, d < k → slices_IndexFunc_int_int_impl_GoodTurns_lit1.l0 k x (x.length : Int) (i : Int) = some r := by
  induction d with
  | zero =>
    intro i hd hi
    refine ⟨-1, ?_, fun k hk => ?_⟩
    · rw [List.drop_of_length_le (by omega)]
      simp
    · obtain ⟨k, rfl⟩ : ∃ m, k = m + 1 := ⟨k - 1, by omega⟩
      simp only [slices_IndexFunc_int_int_impl_GoodTurns_lit1.l0]
      rw [if_neg (by omega)]
  | succ d ih =>
    intro i hd hi
    by_cases c : 1 ≤ rd x (i : Int) ∧ rd x (i : Int) ≤ 50
    · obtain ⟨r, hr, h2⟩ := ih (i + 1) (by omega) (by omega)
      refine ⟨r, ?_, fun k hk => ?_⟩
      · rw [hr, dropInt x i (by omega)]
        simp only [List.forall_mem_cons, c, true_and, and_self]
      · obtain ⟨k, rfl⟩ : ∃ m, k = m + 1 := ⟨k - 1, by omega⟩
        simp only [slices_IndexFunc_int_int_impl_GoodTurns_lit1.l0]
        rw [if_pos (by omega), if_pos (by omega), if_pos (by omega), ilit_is, wrap_succ (n := x.length) (by omega) (by omega)]
        simp only [Option.bind_some, c, and_self, decide_true, Bool.not_true, Bool.false_eq_true, if_false]
        exact h2 k (by omega)
    · refine ⟨(i : Int), ?_, fun k hk => ?_⟩
      · rw [dropInt x i (by omega)]
        exact ⟨fun _ h => c (h _ List.mem_cons_self), fun _ => by omega⟩
      · obtain ⟨k, rfl⟩ : ∃ m, k = m + 1 := ⟨k - 1, by omega⟩
        simp only [slices_IndexFunc_int_int_impl_GoodTurns_lit1.l0]
        rw [if_pos (by omega), if_pos (by omega), if_pos (by omega), ilit_is, decide_eq_false c]
        simp only [Option.bind_some, Bool.not_false, if_true]
theorem cont_is (x : List Int) (hn : x.length ≤ 1048576) (k : Nat) (hk : 1048576 < k) : slices_ContainsFunc_int_int_impl_GoodTurns_lit1.f k x = some (decide (¬ ∀ y ∈ x, 1 ≤ y ∧ y ≤ 50)) := by
  unfold slices_ContainsFunc_int_int_impl_GoodTurns_lit1.f slices_IndexFunc_int_int_impl_GoodTurns_lit1.f
  obtain ⟨r, hr, e⟩ := idx_l0 x hn x.length 0 (by omega) (by omega)
  rw [show (0 : Int) = ((0 : Nat) : Int) from rfl, e k (by omega)]
  simp only [Option.bind_some]
  rw [List.drop_zero] at hr
  congr 1
  rw [Bool.eq_iff_iff, decide_eq_true_eq, decide_eq_true_eq]
  exact hr
theorem igood_l0 (l : List S116) (hn : l.length ≤ 1048576) (hl : ∀ q ∈ l, q.f0.length ≤ 1048576) (d : Nat) : ∀ (k i : Nat), l.length - i = d → i ≤ l.length → 1048576 + d < k →
    impl_GoodTurns.l0 k l (l.length : Int) (i : Int) = some (decide (∀ q ∈ l.drop i, GQ q)) := by
  induction d with
  | zero =>
    intro k i hd hi hk
    obtain ⟨k, rfl⟩ : ∃ m, k = m + 1 := ⟨k - 1, by omega⟩
    simp only [impl_GoodTurns.l0]
    rw [if_neg (by omega), List.drop_of_length_le (by omega)]
    exact congrArg some (decide_eq_true (by simp)).symm
  | succ d ih =>
    intro k i hd hi hk
    obtain ⟨k, rfl⟩ : ∃ m, k = m + 1 := ⟨k - 1, by omega⟩
    have hq := hl _ (rd110_mem l i (by omega))
    simp only [impl_GoodTurns.l0]
    rw [if_pos (by omega), if_pos (by omega), if_pos (by omega), cont_is _ hq k (by omega), iin_is, itime_is, wrap_succ (n := l.length) (by omega) (by omega), ih k (i + 1) (by omega) (by omega) (by omega), drop110 l i (by omega)]
    generalize rd_T116 l (i : Int) = q at hq ⊢
    simp only [Option.bind_some, decide_eq_true_eq]
    have no : ∀ (I : Decidable (∀ y ∈ q :: l.drop (i + 1), GQ y)), ¬ GQ q → some false = some (@decide _ I) := fun I c => by
      exact congrArg some (decide_eq_false fun h => c (h _ List.mem_cons_self)).symm
    have yes : ∀ (J : Decidable (∀ y ∈ l.drop (i + 1), GQ y)) (I : Decidable (∀ y ∈ q :: l.drop (i + 1), GQ y)), GQ q → some (@decide _ J) = some (@decide _ I) := fun J I c => congrArg some (decide_eq_decide.mpr (by simp only [List.forall_mem_cons, c, true_and]))
    by_cases c1 : (q.f0.length : Int) > 40
    · rw [if_pos c1]
      exact no _ fun h => by have := h.2.1; omega
    · rw [if_neg c1]
      by_cases c2 : ∀ y ∈ q.f0, 1 ≤ y ∧ y ≤ 50
      · rw [if_neg (fun h => h c2)]
        by_cases c3 : 0 ≤ q.f1 ∧ q.f1 ≤ 100
        · rw [if_pos c3]
          by_cases c4 : 0 ≤ q.f2 ∧ q.f2 ≤ 1000000
          · rw [if_pos c4]
            by_cases c5 : (q.f0.length : Int) = 0
            · rw [if_pos c5]
              by_cases c6 : q.f1 = 0
              · rw [if_pos c6]
                exact yes _ _ ⟨c2, by omega, c3, c4, fun _ => c6⟩
              · rw [if_neg c6]
                exact no _ fun h => c6 (h.2.2.2.2 (by omega))
            · rw [if_neg c5]
              exact yes _ _ ⟨c2, by omega, c3, c4, fun h => by omega⟩
          · rw [if_neg c4]
            exact no _ fun h => c4 h.2.2.2.1
        · rw [if_neg c3]
          exact no _ fun h => c3 h.2.2.1
      · rw [if_pos c2]
        exact no _ fun h => c2 h.1
theorem igoodT_is (a : Int) (l : List S116) (t : Int) (hn : l.length ≤ 1048576) (hl : ∀ q ∈ l, q.f0.length ≤ 1048576) (k : Nat) (hk : 2097153 < k) : impl_GoodTurns.f k a l t = some (decide (GT a l t)) := by
  unfold impl_GoodTurns.f
  obtain ⟨k, rfl⟩ : ∃ m, k = m + 1 := ⟨k - 1, by omega⟩
  rw [iin_is, iin_is, itime_is]
  simp only [Option.bind_some, decide_eq_true_eq, impl_GoodTurns.j0, if_true]
  have no : ¬ GT a l t → some false = some (decide (GT a l t)) := fun c => by rw [decide_eq_false c]
  by_cases c1 : 1 ≤ a ∧ a ≤ 50
  · rw [if_pos c1]
    by_cases c2 : 1 ≤ (l.length : Int) ∧ (l.length : Int) ≤ 6
    · rw [if_pos c2]
      by_cases c3 : 0 ≤ t ∧ t ≤ 1000000
      · rw [decide_eq_true c3, if_neg (by decide), show (0 : Int) = ((0 : Nat) : Int) from rfl, igood_l0 l hn hl l.length k 0 (by omega) (by omega) (by omega), List.drop_zero]
        congr 1
        rw [Bool.eq_iff_iff, decide_eq_true_eq, decide_eq_true_eq]
        exact ⟨fun h => ⟨h, c1, c2, c3⟩, fun h => h.1⟩
      · rw [decide_eq_false c3, if_pos (by decide)]
        exact no fun h => c3 h.2.2.2
    · rw [if_neg c2]
      exact no fun h => c2 h.2.2.1
  · rw [if_neg c1]
    exact no fun h => c1 h.2.1

theorem markIntS_l0 (d : Nat) : ∀ (k i : Nat) (x : List Int) (m : Int), x.length ≤ 9223372036854775807 → x.length - i = d → i ≤ x.length → d < k → 0 ≤ m → m + d ≤ 9223372036854775807 →
    laws_markIntS.l0 k x m (i : Int) = some (m + d, x.take i ++ (List.range d).map (fun j : Nat => m + j)) := by
  induction d with
  | zero =>
    intro k i x m hn hd hi hk h0 h1
    obtain ⟨k, rfl⟩ : ∃ m, k = m + 1 := ⟨k - 1, by omega⟩
    simp only [laws_markIntS.l0]
    rw [if_neg (by omega), List.take_of_length_le (by omega)]
    simp
  | succ d ih =>
    intro k i x m hn hd hi hk h0 h1
    obtain ⟨k, rfl⟩ : ∃ m, k = m + 1 := ⟨k - 1, by omega⟩
    simp only [laws_markIntS.l0]
    rw [if_pos (by omega), if_pos (by omega), wrap_succ (n := x.length) (by omega) hn, wrap_in (by omega) (by omega),
      ih k (i + 1) (x.set (i : Int).toNat m) (m + 1) (by simpa using hn) (by rw [List.length_set]; omega) (by rw [List.length_set]; omega) (by omega) (by omega) (by omega)]
    have hi' : i < x.length := by omega
    have e1 : (x.set i m).take (i + 1) = x.take i ++ [m] := by
      rw [List.take_add_one, List.take_set_of_le (Nat.le_refl i), List.getElem?_set_self hi']
      rfl
    rw [show (i : Int).toNat = i from rfl, e1, List.range_succ_eq_map, List.map_cons, List.map_map]
    simp only [List.append_assoc, List.cons_append, List.nil_append]
    congr 1
    refine Prod.ext (by simp; omega) ?_
    simp only [Function.comp_def]
    congr 1
    congr 1
    · simp
    · exact List.map_congr_left fun j _ => by simp; omega
theorem markIntS_is (x : List Int) (m : Int) (k : Nat) (hn : x.length ≤ 1000000000000) (hk : x.length < k) (h0 : 0 ≤ m) (h1 : m ≤ 1000000000000000) :
    laws_markIntS.f k x m = some (m + x.length, (List.range x.length).map (fun j : Nat => m + j)) := by
  unfold laws_markIntS.f
  have := markIntS_l0 x.length k 0 x m (by omega) (by omega) (by omega) hk h0 (by omega)
  simpa using this

theorem heldIntS_l0 (d : Nat) : ∀ (k i : Nat) (x : List Int) (m : Int), x.length ≤ 9223372036854775807 → x.length - i = d → i ≤ x.length → d < k → 0 ≤ m → m + d ≤ 9223372036854775807 →
    (∀ j : Nat, j < d → x.getD (i + j) 0 = m + j) → laws_heldIntS.l0 k x m (i : Int) = some (m + d) := by
  induction d with
  | zero =>
    intro k i x m hn hd hi hk h0 h1 hx
    obtain ⟨k, rfl⟩ : ∃ m, k = m + 1 := ⟨k - 1, by omega⟩
    simp only [laws_heldIntS.l0]
    rw [if_neg (by omega)]
    simp
  | succ d ih =>
    intro k i x m hn hd hi hk h0 h1 hx
    obtain ⟨k, rfl⟩ : ∃ m, k = m + 1 := ⟨k - 1, by omega⟩
    simp only [laws_heldIntS.l0]
    have e := hx 0 (by omega)
    rw [if_pos (by omega), if_pos (by omega), if_pos (by unfold rd; simpa using e), wrap_succ (n := x.length) (by omega) hn, wrap_in (by omega) (by omega),
      ih k (i + 1) x (m + 1) hn (by omega) (by omega) (by omega) (by omega) (by omega) (fun j hj => by have := hx (j + 1) (by omega); rw [show i + 1 + j = i + (j + 1) by omega, this]; omega)]
    congr 1
    omega
theorem heldIntS_is (n : Nat) (m : Int) (k : Nat) (hn : n ≤ 1000000000000) (hk : n < k) (h0 : 0 ≤ m) (h1 : m ≤ 1000000000000000) :
    laws_heldIntS.f k ((List.range n).map (fun j : Nat => m + j)) m = some (m + n) := by
  unfold laws_heldIntS.f
  have := heldIntS_l0 n k 0 ((List.range n).map (fun j : Nat => m + j)) m (by simp; omega) (by simp) (by simp) hk h0 (by omega) (fun j hj => by
    simp [List.getD_eq_getElem?_getD, List.getElem?_range hj])
  simpa using this

/-! Rows of queues: marked, held, the same. -/
theorem rd61_mem (l : List S116) (i : Nat) (h : i < l.length) : rd_T116 l (i : Int) ∈ l := by
  unfold rd_T116
  rw [show ((i : Int)).toNat = i from rfl, List.getD_eq_getElem?_getD, List.getElem?_eq_getElem h]
  exact List.getElem_mem h
theorem drop61 (l : List S116) (i : Nat) (h : i < l.length) : l.drop i = rd_T116 l (i : Int) :: l.drop (i + 1) := by
  rw [List.drop_eq_getElem_cons h]
  unfold rd_T116
  simp [List.getD_eq_getElem?_getD, List.getElem?_eq_getElem h]
def tot : List S116 → Nat
  | [] => 0
  | c :: cs => c.f0.length + 2 + tot cs
def mkd : Int → List S116 → List S116
  | _, [] => []
  | m, c :: cs => ⟨(List.range c.f0.length).map (fun j : Nat => m + j), m + c.f0.length, m + c.f0.length + 1⟩ :: mkd (m + c.f0.length + 2) cs
theorem eqQ_l0 (x : List S116) (hn : x.length ≤ 1048576) (hx : ∀ c ∈ x, c.f0.length ≤ 1048576) (d : Nat) : ∀ (k i : Nat), x.length - i = d → 1048577 + d < k → laws_eqQueueS.l0 k x x (i : Int) = some true := by
  induction d with
  | zero =>
    intro k i hd hk
    obtain ⟨k, rfl⟩ : ∃ m, k = m + 1 := ⟨k - 1, by omega⟩
    rw [laws_eqQueueS.l0, if_neg (by omega)]
  | succ d ih =>
    intro k i hd hk
    obtain ⟨k, rfl⟩ : ∃ m, k = m + 1 := ⟨k - 1, by omega⟩
    have := hx _ (rd61_mem x i (by omega))
    rw [laws_eqQueueS.l0, if_pos (by omega), if_pos (by omega), if_pos (by omega)]
    unfold laws_eqQueue.f
    rw [eqIntS_same _ (by omega) k (by omega), Option.bind_some, if_pos rfl, if_pos rfl, if_pos rfl, Option.bind_some, if_pos rfl, wrap_succ (n := x.length) (by omega) (by omega)]
    exact ih k (i + 1) (by omega) (by omega)
theorem eqQ_same (x : List S116) (hn : x.length ≤ 1048576) (hx : ∀ c ∈ x, c.f0.length ≤ 1048576) (k : Nat) (hk : 2097154 < k) : laws_eqQueueS.f k x x = some true := by
  unfold laws_eqQueueS.f
  rw [if_pos rfl]
  exact eqQ_l0 x hn hx x.length k 0 (by omega) (by omega)
theorem markQ_l0 (d : Nat) : ∀ (k i : Nat) (x : List S116) (m : Int), x.length ≤ 1048576 → (∀ c ∈ x, c.f0.length ≤ 1048576) → x.length - i = d → i ≤ x.length → 1048577 + d < k → 0 ≤ m → m + tot (x.drop i) ≤ 1000000000000000 → laws_markQueueS.l0 k x m (i : Int) = some (m + tot (x.drop i), x.take i ++ mkd m (x.drop i)) := by
  induction d with
  | zero =>
    intro k i x m hn hx hd hi hk h0 h1
    obtain ⟨k, rfl⟩ : ∃ m, k = m + 1 := ⟨k - 1, by omega⟩
    rw [laws_markQueueS.l0, if_neg (by omega), List.drop_of_length_le (by omega), List.take_of_length_le (by omega)]
    simp [tot, mkd]
  | succ d ih =>
    intro k i x m hn hx hd hi hk h0 h1
    obtain ⟨k, rfl⟩ : ∃ m, k = m + 1 := ⟨k - 1, by omega⟩
    have hc := hx _ (rd61_mem x i (by omega))
    rw [drop61 x i (by omega), tot] at h1
    rw [laws_markQueueS.l0, if_pos (by omega), if_pos (by omega), drop61 x i (by omega), tot, mkd]
    generalize hcc : rd_T116 x (i : Int) = c at *
    rw [markIntS_is c.f0 m k (by omega) (by omega) h0 (by omega), Option.bind_some]
    dsimp only
    rw [wrap_in (x := m + (c.f0.length : Int) + 1) (by omega) (by omega), wrap_in (x := m + (c.f0.length : Int) + 1 + 1) (by omega) (by omega), wrap_succ (n := x.length) (by omega) (by omega), show ((i : Int)).toNat = i from rfl]
    have hd2 : (x.set i (⟨(List.range c.f0.length).map (fun j : Nat => m + j), m + c.f0.length, m + c.f0.length + 1⟩ : S116)).drop (i + 1) = x.drop (i + 1) := List.drop_set_of_lt (by omega)
    have go := ih k (i + 1) (x.set i (⟨(List.range c.f0.length).map (fun j : Nat => m + j), m + c.f0.length, m + c.f0.length + 1⟩ : S116)) (m + c.f0.length + 1 + 1) (by rw [List.length_set]; exact hn) (fun y hy => by
      rcases List.mem_or_eq_of_mem_set hy with h | h
      · exact hx y h
      · rw [h]
        simpa using hc) (by rw [List.length_set]; omega) (by rw [List.length_set]; omega) (by omega) (by omega) (by rw [hd2]; omega)
    rw [go, hd2, List.take_add_one, List.take_set_of_le (Nat.le_refl i), List.getElem?_set_self (by omega), List.append_assoc]
    congr 1
    refine Prod.ext ?_ ?_
    · dsimp only
      omega
    · dsimp only
      rw [show m + (c.f0.length : Int) + 1 + 1 = m + c.f0.length + 2 by omega]
      rfl
theorem heldQ_l0 (cs : List S116) : ∀ (k i : Nat) (y : List S116) (m : Int), y.length ≤ 1048576 → (∀ c ∈ cs, c.f0.length ≤ 1048576) → y.drop i = mkd m cs → y.length = i + cs.length → 1048577 + cs.length < k → 0 ≤ m → m + tot cs ≤ 1000000000000000 → laws_heldQueueS.l0 k y m (i : Int) = some (m + tot cs) := by
  induction cs with
  | nil =>
    intro k i y m hn hx hy hl hk h0 h1
    obtain ⟨k, rfl⟩ : ∃ m, k = m + 1 := ⟨k - 1, by omega⟩
    simp only [List.length_nil] at hl
    rw [laws_heldQueueS.l0, if_neg (by omega)]
    simp [tot]
  | cons c cs ih =>
    intro k i y m hn hx hy hl hk h0 h1
    obtain ⟨k, rfl⟩ : ∃ m, k = m + 1 := ⟨k - 1, by omega⟩
    simp only [List.length_cons] at hl hk
    rw [tot] at h1 ⊢
    have hc := hx c List.mem_cons_self
    rw [drop61 y i (by omega), mkd] at hy
    injection hy with hy1 hy2
    rw [laws_heldQueueS.l0, if_pos (by omega), if_pos (by omega), hy1]
    dsimp only
    rw [heldIntS_is c.f0.length m k (by omega) (by omega) h0 (by omega), Option.bind_some, if_neg (by omega), if_pos rfl, wrap_in (x := m + (c.f0.length : Int) + 1) (by omega) (by omega), if_pos rfl, wrap_in (x := m + (c.f0.length : Int) + 1 + 1) (by omega) (by omega), wrap_succ (n := y.length) (by omega) (by omega)]
    rw [ih k (i + 1) y (m + (c.f0.length : Int) + 1 + 1) hn (fun z hz => hx z (List.mem_cons_of_mem _ hz)) (by rw [hy2, show m + (c.f0.length : Int) + 1 + 1 = m + c.f0.length + 2 by omega]) (by omega) (by omega) (by omega) (by omega)]
    congr 1
    omega
theorem mkd_len : ∀ (cs : List S116) (m : Int), (mkd m cs).length = cs.length
  | [], _ => rfl
  | c :: cs, m => by rw [mkd, List.length_cons, mkd_len cs, List.length_cons]
/-- A row marked is held. -/
theorem mark_held (x : List S116) (hn : x.length ≤ 1048576) (hx : ∀ c ∈ x, c.f0.length ≤ 1048576) (ht : tot x ≤ 100000000000000) (k : Nat) (hk : 2097154 < k) : ∃ (m : Int) (y : List S116), 0 ≤ m ∧ laws_markQueueS.f k x 1 = some (m, y) ∧ laws_heldQueueS.f k y 1 = some m := by
  have a := markQ_l0 x.length k 0 x 1 hn hx (by omega) (by omega) (by omega) (by omega) (by rw [List.drop_zero]; omega)
  rw [List.drop_zero, List.take_zero, List.nil_append] at a
  have b := heldQ_l0 x k 0 (mkd 1 x) 1 (by rw [mkd_len]; exact hn) hx (List.drop_zero) (by rw [mkd_len]; omega) (by omega) (by omega) (by omega)
  exact ⟨1 + tot x, mkd 1 x, by omega, a, b⟩

/-! PutLong: both sides give the same. -/
noncomputable def putLong (a : Int) (l : List S116) (t i x : Int) : Int × List S116 × Int × Bool :=
  if GT a l t ∧ (0 ≤ i ∧ i < (l.length : Int)) ∧ (1 ≤ x ∧ x ≤ 50) ∧ (((rd_T116 l i).f0).length : Int) ≠ 40 then (a, l.set i.toNat (⟨(rd_T116 l i).f0 ++ [x], (rd_T116 l i).f1, (rd_T116 l i).f2⟩ : S116), t, true) else (0, [], 0, false)
theorem own_l0 (l : List S116) (a t : Int) (hn : l.length ≤ 1048576) (hl : ∀ q ∈ l, q.f0.length ≤ 1048576) (d : Nat) : ∀ (k i : Nat) (x : List S116), l.length - i = d → i ≤ l.length → x.length = i → d < k →
    spec_l14Own.l0 k x l (l.length : Int) (i : Int) a l t = some (a, x ++ l.drop i, t) := by
  induction d with
  | zero =>
    intro k i x hd hi hx hk
    obtain ⟨k, rfl⟩ : ∃ m, k = m + 1 := ⟨k - 1, by omega⟩
    rw [spec_l14Own.l0, if_neg (by omega), List.drop_of_length_le (by omega), List.append_nil]
  | succ d ih =>
    intro k i x hd hi hx hk
    obtain ⟨k, rfl⟩ : ∃ m, k = m + 1 := ⟨k - 1, by omega⟩
    have := hl _ (rd110_mem l i (by omega))
    rw [spec_l14Own.l0, if_pos (by omega), if_pos (by omega), if_pos (by omega), Option.bind_some, List.nil_append, if_pos (by simp only [List.length_nil]; omega), if_pos (by omega), wrap_succ (n := l.length) (by omega) (by omega), ih k (i + 1) _ (by omega) (by omega) (by rw [List.length_append, hx]; rfl) (by omega), drop110 l i (by omega), List.append_assoc]
    rfl
theorem own_is (l : List S116) (a t : Int) (hn : l.length ≤ 1048576) (hl : ∀ q ∈ l, q.f0.length ≤ 1048576) (k : Nat) (hk : 1048576 < k) : spec_l14Own.f k a l t = some (a, l, t) := by
  unfold spec_l14Own.f
  rw [show (0 : Int) = ((0 : Nat) : Int) from rfl, own_l0 l a t hn hl l.length k 0 [] (by omega) (by omega) rfl (by omega)]
  rfl
theorem rdI_mem (l : List S116) (i : Int) (h0 : 0 ≤ i) (h1 : i < (l.length : Int)) : rd_T116 l i ∈ l := by
  obtain ⟨n, rfl⟩ : ∃ n : Nat, i = n := ⟨i.toNat, by omega⟩
  exact rd110_mem l n (by omega)
theorem sput_is (a : Int) (l : List S116) (t i x : Int) (hn : l.length ≤ 1048576) (hl : ∀ q ∈ l, q.f0.length ≤ 1048576) (k : Nat) (hk : 2097153 < k) : spec_PutLong.f k a l t i x = some (putLong a l t i x) := by
  unfold spec_PutLong.f putLong
  rw [sgoodT_is a l t hn hl k (by omega), sin_is, own_is l a t hn hl k (by omega), Option.bind_some, Option.bind_some, Option.bind_some]
  dsimp only
  by_cases c1 : GT a l t
  · rw [decide_eq_true c1, if_pos rfl]
    by_cases c2 : i < 0
    · rw [if_pos c2, if_neg (fun h => by have := h.2.1.1; omega)]
    · rw [if_neg c2]
      by_cases c3 : i ≥ (l.length : Int)
      · rw [if_pos c3, if_neg (fun h => by have := h.2.1.2; omega)]
      · rw [if_neg c3]
        have h0 : 0 ≤ i := by omega
        have h1 : i < (l.length : Int) := by omega
        have hm := hl _ (rdI_mem l i h0 h1)
        by_cases c4 : 1 ≤ x ∧ x ≤ 50
        · rw [decide_eq_true c4, if_pos rfl, if_pos h0, if_pos h1]
          by_cases c5 : ((rd_T116 l i).f0.length : Int) = 40
          · rw [if_pos c5, if_neg (fun h => h.2.2.2 c5)]
          · rw [if_neg c5, if_pos h1, if_pos (by omega), if_pos ⟨c1, ⟨h0, h1⟩, c4, c5⟩]
        · rw [decide_eq_false c4, if_neg Bool.false_ne_true, if_neg (fun h => c4 h.2.2.1)]
  · rw [decide_eq_false c1, if_neg Bool.false_ne_true, if_neg (fun h => c1 h.1)]
theorem copied_is (l : List S116) (a t : Int) (hn : l.length ≤ 1000000) (hl : ∀ q ∈ l, q.f0.length ≤ 1000000) : impl_Turns_copied.f a l t = some (a, l, t) := by
  unfold impl_Turns_copied.f
  rw [if_pos ⟨hn, hl⟩]
theorem iput_is (a : Int) (l : List S116) (t i x : Int) (hn : l.length ≤ 1048576) (hl : ∀ q ∈ l, q.f0.length ≤ 1048576) (k : Nat) (hk : 2097153 < k) : impl_PutLong.f k a l t i x = some (putLong a l t i x) := by
  unfold impl_PutLong.f putLong
  rw [igoodT_is a l t hn hl k (by omega), iin_is, iin_is, Option.bind_some, Option.bind_some, Option.bind_some, wrap_in (by omega) (by omega)]
  by_cases c1 : GT a l t
  · rw [decide_eq_true c1, if_pos rfl]
    by_cases c2 : 0 ≤ i ∧ i ≤ (l.length : Int) - 1
    · rw [decide_eq_true c2, if_pos rfl]
      have h0 : 0 ≤ i := by omega
      have h1 : i < (l.length : Int) := by omega
      have hm := hl _ (rdI_mem l i h0 h1)
      by_cases c4 : 1 ≤ x ∧ x ≤ 50
      · rw [decide_eq_true c4, if_pos rfl, if_pos h0, if_pos h1, copied_is l a t (by have := c1.2.2.1; omega) (fun q hq => by have := (c1.1 q hq).2.1; omega), Option.bind_some]
        dsimp only
        by_cases c5 : ((rd_T116 l i).f0.length : Int) = 40
        · rw [if_pos c5, if_neg (fun h => h.2.2.2 c5)]
        · rw [if_neg c5, if_pos h1, if_pos (by omega), if_pos ⟨c1, ⟨h0, h1⟩, c4, c5⟩]
      · rw [decide_eq_false c4, if_neg Bool.false_ne_true, if_neg (fun h => c4 h.2.2.1)]
    · rw [decide_eq_false c2, if_neg Bool.false_ne_true, if_neg (fun h => c2 (by have := h.2.1; omega))]
  · rw [decide_eq_false c1, if_neg Bool.false_ne_true, if_neg (fun h => c1 h.1)]
theorem tot_le (B : Nat) : ∀ l : List S116, (∀ q ∈ l, q.f0.length ≤ B) → tot l ≤ l.length * (B + 2)
  | [], _ => by simp [tot]
  | c :: cs, h => by
    have h1 := h c List.mem_cons_self
    have h2 := tot_le B cs (fun q hq => h q (List.mem_cons_of_mem _ hq))
    rw [tot, List.length_cons, Nat.succ_mul]
    omega
theorem put_small (a : Int) (l : List S116) (t i x : Int) : (putLong a l t i x).2.1.length ≤ 1048576 ∧ (∀ q ∈ (putLong a l t i x).2.1, q.f0.length ≤ 1048576) := by
  unfold putLong
  by_cases c : GT a l t ∧ (0 ≤ i ∧ i < (l.length : Int)) ∧ (1 ≤ x ∧ x ≤ 50) ∧ (((rd_T116 l i).f0).length : Int) ≠ 40
  · rw [if_pos c]
    have h6 := c.1.2.2.1
    refine ⟨by rw [List.length_set]; omega, fun q hq => ?_⟩
    rcases List.mem_or_eq_of_mem_set hq with h | h
    · have := (c.1.1 q h).2.1
      omega
    · have := (c.1.1 _ (rdI_mem l i c.2.1.1 c.2.1.2)).2.1
      rw [h, List.length_append, List.length_singleton]
      omega
  · rw [if_neg c]
    exact ⟨by simp, fun q hq => by cases hq⟩
theorem markH (x : List S116) (hn : x.length ≤ 1048576) (hx : ∀ c ∈ x, c.f0.length ≤ 1048576) (k : Nat) (hk : 2097154 < k) : ∃ (m : Int) (y : List S116), 0 ≤ m ∧ laws_markQueueS.f k x 1 = some (m, y) ∧ laws_heldQueueS.f k y 1 = some m := by
  refine mark_held x hn hx ?_ k hk
  have h1 := tot_le 1048576 x hx
  have h2 : x.length * (1048576 + 2) ≤ 1048576 * (1048576 + 2) := Nat.mul_le_mul_right _ hn
  omega
theorem heldT (y : List S116) (m : Int) (h0 : 0 ≤ m) (a t : Int) (k : Nat) (h : laws_heldQueueS.f k y 1 = some m) : laws_heldTurns.f k a y t 1 = some m := by
  unfold laws_heldTurns.f
  rw [h, Option.bind_some, if_neg (by omega)]
/-- A mark of a row does not hang on the fuel. -/
theorem markH2 (x : List S116) (hn : x.length ≤ 1048576) (hx : ∀ c ∈ x, c.f0.length ≤ 1048576) : ∃ (m : Int) (y : List S116), 0 ≤ m ∧ ∀ k, 2097154 < k → laws_markQueueS.f k x 1 = some (m, y) ∧ laws_heldQueueS.f k y 1 = some m := by
  have h1 := tot_le 1048576 x hx
  have h2 : x.length * (1048576 + 2) ≤ 1048576 * (1048576 + 2) := Nat.mul_le_mul_right _ hn
  refine ⟨1 + tot x, mkd 1 x, by omega, fun k hk => ?_⟩
  have a := markQ_l0 x.length k 0 x 1 hn hx (by omega) (by omega) (by omega) (by omega) (by rw [List.drop_zero]; omega)
  rw [List.drop_zero, List.take_zero, List.nil_append] at a
  have b := heldQ_l0 x k 0 (mkd 1 x) 1 (by rw [mkd_len]; exact hn) hx (List.drop_zero) (by rw [mkd_len]; omega) (by omega) (by omega) (by omega)
  exact ⟨a, b⟩

theorem law_is (a : Int) (l : List S167) (t i x : Int) (hn : l.length ≤ maxLen) (hl : ∀ q ∈ l, q.f0.length ≤ maxLen) (k : Nat) (hk : 3000000 < k) : laws_FnExactPutLong.f k a l t i x = some true := by
  unfold laws_FnExactPutLong.f
  obtain ⟨r, hr, e⟩ := szTurns_is a l t hn hl
  rw [e _ (by omega), Option.bind_some]
  by_cases c : r < 0
  · rw [if_pos c]
  · rw [if_neg c]
    rcases hr with hr | ⟨h1, h2⟩
    · exact absurd hr c
    · have h1' : (l.map conv).length ≤ 1048576 := by rw [List.length_map]; exact h1
      have h2' : ∀ q ∈ l.map conv, q.f0.length ≤ 1048576 := by
        intro q hq
        obtain ⟨p, hp, rfl⟩ := List.mem_map.mp hq
        exact h2 p hp
      have hto := fun k (hk : 2097152 < k) => toTurns_is a l t h1 h2 k hk
      have hsp := fun k (hk : 2097153 < k) => sput_is a (l.map conv) t i x h1' h2' k hk
      have him := fun k (hk : 2097153 < k) => iput_is a (l.map conv) t i x h1' h2' k hk
      have heq := fun k (hk : 2097152 < k) => eqTurns_same a (l.map conv) t h1' h2' k hk
      obtain ⟨p1, p2⟩ := put_small a (l.map conv) t i x
      obtain ⟨m, y, m0, hm⟩ := markH2 (l.map conv) h1' h2'
      generalize hP : putLong a (l.map conv) t i x = P at *
      obtain ⟨q, z, u, ok⟩ := P
      dsimp only at p1 p2
      have hez := fun k (hk : 2097152 < k) => eqTurns_same q z u p1 p2 k hk
      obtain ⟨m2, y2, n0, hm2⟩ := markH2 z p1 p2
      generalize l.map conv = L at *
      obtain ⟨k, rfl⟩ : ∃ n, k = n + 3 := ⟨k - 3, by omega⟩
      rw [hto _ (by omega), Option.bind_some]
      dsimp only
      rw [hsp _ (by omega), Option.bind_some, Option.bind_some, him _ (by omega), Option.bind_some]
      dsimp only
      rw [hez _ (by omega), Option.bind_some, if_pos rfl, bne_self_eq_false, laws_FnExactPutLong.j0, if_neg Bool.false_ne_true, hto _ (by omega), Option.bind_some]
      dsimp only
      unfold laws_markTurns.f
      rw [heq _ (by omega), Option.bind_some, if_pos rfl, (hm _ (by omega)).1, Option.bind_some]
      dsimp only
      rw [if_neg (by omega), hez _ (by omega), Option.bind_some, if_pos rfl, bne_self_eq_false, laws_FnExactPutLong.j1, if_neg Bool.false_ne_true]
      unfold laws_markTurns.f
      rw [(hm2 _ (by omega)).1, Option.bind_some]
      dsimp only
      rw [heldT y2 m2 n0 q u _ (hm2 _ (by omega)).2, Option.bind_some, if_neg (by omega), if_pos rfl, hto _ (by omega), Option.bind_some]
      dsimp only
      rw [him _ (by omega), Option.bind_some]
      dsimp only
      rw [hez _ (by omega), Option.bind_some, if_pos rfl, bne_self_eq_false, laws_FnExactPutLong.j2, if_neg Bool.false_ne_true, heldT y2 m2 n0 q u _ (hm2 _ (by omega)).2, Option.bind_some, if_neg (by omega), if_pos rfl]
theorem FnExactPutLong : laws_FnExactPutLong.Stmt := by
  intro a l t i x ⟨_, ⟨hn, hl⟩, _⟩ _ _
  exact ⟨3000001, law_is a l t i x hn (fun q hq => (hl q hq).1.1) _ (by omega)⟩

end Go.Proofs.Yteneeohaoplpbaa.Pure
