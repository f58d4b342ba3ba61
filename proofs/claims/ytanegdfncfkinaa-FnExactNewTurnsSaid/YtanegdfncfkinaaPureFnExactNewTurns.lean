/- The program's NewTurns returns what the reference's returns, for all whole numbers of 64 bits, and its queues are new memory. -/
import Derived.Test.YtanegdfncfkinaaXFnExactNewTurnsx2
set_option linter.unusedVariables false
set_option linter.unusedSimpArgs false
namespace Go.Proofs.Ytanegdfncfkinaa.Pure
open Go.RowKit Go.Proofs.Ytanegdfncfkinaa.XFnExactNewTurns Go.Proofs.YtanegdfncfkinaaW.PrintWords Go.Proofs.YtanegdfncfkinaaW.PrintLast Go.Proofs.YtanegdfncfkinaaW.PrintMore

/-- What is to be shown of FnExactNewTurns, in numbers and lists alone. -/
def laws_FnExactNewTurns.Stmt : Prop := ∀ (a0 : Int) (a1 : Int), ((Lit.int .i64 a0).wf = true) → ((Lit.int .i64 a1).wf = true) → ∃ k, laws_FnExactNewTurns.f k a0 a1 = some true

theorem wrap_in {x : Int} (h0 : -9223372036854775808 ≤ x) (h1 : x ≤ 9223372036854775807) : wrap64 x = x := by
  unfold wrap64
  omega
theorem wrap_succ {i n : Nat} (h : i < n) (hn : n ≤ 9223372036854775807) : wrap64 ((i : Int) + 1) = ((i + 1 : Nat) : Int) := by
  rw [wrap_in (by omega) (by omega)]
  omega

theorem sin_is (a b c : Int) : spec_l1In.f a b c = some (decide (b ≤ a ∧ a ≤ c)) := by
  unfold spec_l1In.f
  by_cases h : b ≤ a <;> simp [h]

theorem eqIntS_l0 (a : List Int) (hn : a.length ≤ 9223372036854775807) (d : Nat) : ∀ (k i : Nat), a.length - i = d → d < k → laws_eqIntS.l0 k a a (i : Int) = some true := by
  induction d with
  | zero =>
    intro k i hd hk
    obtain ⟨k, rfl⟩ : ∃ m, k = m + 1 := ⟨k - 1, by omega⟩
    simp only [laws_eqIntS.l0]
    rw [if_neg (by omega)]
  | succ d ih =>
    intro k i hd hk
    obtain ⟨k, rfl⟩ : ∃ m, k = m + 1 := ⟨k - 1, by omega⟩
    simp only [laws_eqIntS.l0]
    rw [if_pos (by omega), if_pos (by omega), if_pos (by omega), if_pos trivial, wrap_succ (n := a.length) (by omega) hn]
    exact ih k (i + 1) (by omega) (by omega)
theorem eqIntS_same (a : List Int) (hn : a.length ≤ 9223372036854775807) (k : Nat) (hk : a.length < k) : laws_eqIntS.f k a a = some true := by
  unfold laws_eqIntS.f
  rw [if_pos rfl]
  exact eqIntS_l0 a hn a.length k 0 (by omega) hk

theorem markIntS_l0 (d : Nat) : ∀ (k i : Nat) (x : List Int) (m : Int), x.length ≤ 9223372036854775807 → x.length - i = d → i ≤ x.length → d < k → 0 ≤ m → m + d ≤ 9223372036854775807 →
    laws_markIntS.l0 k x m (i : Int) = some (m + d, x.take i ++ (List.range d).map (fun j : Nat => m + j)) := by
  induction d with
  | zero =>
    intro k i x m hn hd hi hk h0 h1
    obtain ⟨k, rfl⟩ : ∃ m, k = m + 1 := ⟨k - 1, by omega⟩
    simp only [laws_markIntS.l0]
    rw [if_neg (by omega), List.take_of_length_le (by omega)]
    simp
  | succ d ih =>
    intro k i x m hn hd hi hk h0 h1
    obtain ⟨k, rfl⟩ : ∃ m, k = m + 1 := ⟨k - 1, by omega⟩
    simp only [laws_markIntS.l0]
    rw [if_pos (by omega), if_pos (by omega), wrap_succ (n := x.length) (by omega) hn, wrap_in (by omega) (by omega),
      ih k (i + 1) (x.set (i : Int).toNat m) (m + 1) (by simpa using hn) (by rw [List.length_set]; omega) (by rw [List.length_set]; omega) (by omega) (by omega) (by omega)]
    have hi' : i < x.length := by omega
    have e1 : (x.set i m).take (i + 1) = x.take i ++ [m] := by
      rw [List.take_add_one, List.take_set_of_le (Nat.le_refl i), List.getElem?_set_self hi']
      rfl
    rw [show (i : Int).toNat = i from rfl, e1, List.range_succ_eq_map, List.map_cons, List.map_map]
    simp only [List.append_assoc, List.cons_append, List.nil_append]
    congr 1
    refine Prod.ext (by simp; omega) ?_
    simp only [Function.comp_def]
    congr 1
    congr 1
    · simp
    · exact List.map_congr_left fun j _ => by simp; omega
theorem markIntS_is (x : List Int) (m : Int) (k : Nat) (hn : x.length ≤ 1000000000000) (hk : x.length < k) (h0 : 0 ≤ m) (h1 : m ≤ 1000000000000000) :
    laws_markIntS.f k x m = some (m + x.length, (List.range x.length).map (fun j : Nat => m + j)) := by
  unfold laws_markIntS.f
  have := markIntS_l0 x.length k 0 x m (by omega) (by omega) (by omega) hk h0 (by omega)
  simpa using this

theorem heldIntS_l0 (d : Nat) : ∀ (k i : Nat) (x : List Int) (m : Int), x.length ≤ 9223372036854775807 → x.length - i = d → i ≤ x.length → d < k → 0 ≤ m → m + d ≤ 9223372036854775807 →
    (∀ j : Nat, j < d → x.getD (i + j) 0 = m + j) → laws_heldIntS.l0 k x m (i : Int) = some (m + d) := by
  induction d with
  | zero =>
    intro k i x m hn hd hi hk h0 h1 hx
    obtain ⟨k, rfl⟩ : ∃ m, k = m + 1 := ⟨k - 1, by omega⟩
    simp only [laws_heldIntS.l0]
    rw [if_neg (by omega)]
    simp
  | succ d ih =>
    intro k i x m hn hd hi hk h0 h1 hx
    obtain ⟨k, rfl⟩ : ∃ m, k = m + 1 := ⟨k - 1, by omega⟩
    simp only [laws_heldIntS.l0]
    have e := hx 0 (by omega)
    rw [if_pos (by omega), if_pos (by omega), if_pos (by unfold rd; simpa using e), wrap_succ (n := x.length) (by omega) hn, wrap_in (by omega) (by omega),
      ih k (i + 1) x (m + 1) hn (by omega) (by omega) (by omega) (by omega) (by omega) (fun j hj => by have := hx (j + 1) (by omega); rw [show i + 1 + j = i + (j + 1) by omega, this]; omega)]
    congr 1
    omega
theorem heldIntS_is (n : Nat) (m : Int) (k : Nat) (hn : n ≤ 1000000000000) (hk : n < k) (h0 : 0 ≤ m) (h1 : m ≤ 1000000000000000) :
    laws_heldIntS.f k ((List.range n).map (fun j : Nat => m + j)) m = some (m + n) := by
  unfold laws_heldIntS.f
  have := heldIntS_l0 n k 0 ((List.range n).map (fun j : Nat => m + j)) m (by simp; omega) (by simp) (by simp) hk h0 (by omega) (fun j hj => by
    simp [List.getD_eq_getElem?_getD, List.getElem?_range hj])
  simpa using this

/-! Rows of queues: marked, held, the same. -/
theorem rd61_mem (l : List S61) (i : Nat) (h : i < l.length) : rd_T61 l (i : Int) ∈ l := by
  unfold rd_T61
  rw [show ((i : Int)).toNat = i from rfl, List.getD_eq_getElem?_getD, List.getElem?_eq_getElem h]
  exact List.getElem_mem h
theorem drop61 (l : List S61) (i : Nat) (h : i < l.length) : l.drop i = rd_T61 l (i : Int) :: l.drop (i + 1) := by
  rw [List.drop_eq_getElem_cons h]
  unfold rd_T61
  simp [List.getD_eq_getElem?_getD, List.getElem?_eq_getElem h]
def tot : List S61 → Nat
  | [] => 0
  | c :: cs => c.f0.length + 2 + tot cs
def mkd : Int → List S61 → List S61
  | _, [] => []
  | m, c :: cs => ⟨(List.range c.f0.length).map (fun j : Nat => m + j), m + c.f0.length, m + c.f0.length + 1⟩ :: mkd (m + c.f0.length + 2) cs
theorem eqQ_l0 (x : List S61) (hn : x.length ≤ 1048576) (hx : ∀ c ∈ x, c.f0.length ≤ 1048576) (d : Nat) : ∀ (k i : Nat), x.length - i = d → 1048577 + d < k → laws_eqQueueS.l0 k x x (i : Int) = some true := by
  induction d with
  | zero =>
    intro k i hd hk
    obtain ⟨k, rfl⟩ : ∃ m, k = m + 1 := ⟨k - 1, by omega⟩
    rw [laws_eqQueueS.l0, if_neg (by omega)]
  | succ d ih =>
    intro k i hd hk
    obtain ⟨k, rfl⟩ : ∃ m, k = m + 1 := ⟨k - 1, by omega⟩
    have := hx _ (rd61_mem x i (by omega))
    rw [laws_eqQueueS.l0, if_pos (by omega), if_pos (by omega), if_pos (by omega)]
    unfold laws_eqQueue.f
    rw [eqIntS_same _ (by omega) k (by omega), Option.bind_some, if_pos rfl, if_pos rfl, if_pos rfl, Option.bind_some, if_pos rfl, wrap_succ (n := x.length) (by omega) (by omega)]
    exact ih k (i + 1) (by omega) (by omega)
theorem eqQ_same (x : List S61) (hn : x.length ≤ 1048576) (hx : ∀ c ∈ x, c.f0.length ≤ 1048576) (k : Nat) (hk : 2097154 < k) : laws_eqQueueS.f k x x = some true := by
  unfold laws_eqQueueS.f
  rw [if_pos rfl]
  exact eqQ_l0 x hn hx x.length k 0 (by omega) (by omega)
theorem markQ_l0 (d : Nat) : ∀ (k i : Nat) (x : List S61) (m : Int), x.length ≤ 1048576 → (∀ c ∈ x, c.f0.length ≤ 1048576) → x.length - i = d → i ≤ x.length → 1048577 + d < k → 0 ≤ m → m + tot (x.drop i) ≤ 1000000000000000 → laws_markQueueS.l0 k x m (i : Int) = some (m + tot (x.drop i), x.take i ++ mkd m (x.drop i)) := by
  induction d with
  | zero =>
    intro k i x m hn hx hd hi hk h0 h1
    obtain ⟨k, rfl⟩ : ∃ m, k = m + 1 := ⟨k - 1, by omega⟩
    rw [laws_markQueueS.l0, if_neg (by omega), List.drop_of_length_le (by omega), List.take_of_length_le (by omega)]
    simp [tot, mkd]
  | succ d ih =>
    intro k i x m hn hx hd hi hk h0 h1
    obtain ⟨k, rfl⟩ : ∃ m, k = m + 1 := ⟨k - 1, by omega⟩
    have hc := hx _ (rd61_mem x i (by omega))
    rw [drop61 x i (by omega), tot] at h1
    rw [laws_markQueueS.l0, if_pos (by omega), if_pos (by omega), drop61 x i (by omega), tot, mkd]
    generalize hcc : rd_T61 x (i : Int) = c at *
    rw [markIntS_is c.f0 m k (by omega) (by omega) h0 (by omega), Option.bind_some]
    dsimp only
    rw [wrap_in (x := m + (c.f0.length : Int) + 1) (by omega) (by omega), wrap_in (x := m + (c.f0.length : Int) + 1 + 1) (by omega) (by omega), wrap_succ (n := x.length) (by omega) (by omega), show ((i : Int)).toNat = i from rfl]
    have hd2 : (x.set i (⟨(List.range c.f0.length).map (fun j : Nat => m + j), m + c.f0.length, m + c.f0.length + 1⟩ : S61)).drop (i + 1) = x.drop (i + 1) := List.drop_set_of_lt (by omega)
    have go := ih k (i + 1) (x.set i (⟨(List.range c.f0.length).map (fun j : Nat => m + j), m + c.f0.length, m + c.f0.length + 1⟩ : S61)) (m + c.f0.length + 1 + 1) (by rw [List.length_set]; exact hn) (fun y hy => by
      rcases List.mem_or_eq_of_mem_set hy with h | h
      · exact hx y h
      · rw [h]
        simpa using hc) (by rw [List.length_set]; omega) (by rw [List.length_set]; omega) (by omega) (by omega) (by rw [hd2]; omega)
    rw [go, hd2, List.take_add_one, List.take_set_of_le (Nat.le_refl i), List.getElem?_set_self (by omega), List.append_assoc]
    congr 1
    refine Prod.ext ?_ ?_
    · dsimp only
      omega
    · dsimp only
      rw [show m + (c.f0.length : Int) + 1 + 1 = m + c.f0.length + 2 by omega]
      rfl
theorem heldQ_l0 (cs : List S61) : ∀ (k i : Nat) (y : List S61) (m : Int), y.length ≤ 1048576 → (∀ c ∈ cs, c.f0.length ≤ 1048576) → y.drop i = mkd m cs → y.length = i + cs.length → 1048577 + cs.length < k → 0 ≤ m → m + tot cs ≤ 1000000000000000 → laws_heldQueueS.l0 k y m (i : Int) = some (m + tot cs) := by
  induction cs with
  | nil =>
    intro k i y m hn hx hy hl hk h0 h1
    obtain ⟨k, rfl⟩ : ∃ m, k = m + 1 := ⟨k - 1, by omega⟩
    simp only [List.length_nil] at hl
    rw [laws_heldQueueS.l0, if_neg (by omega)]
    simp [tot]
  | cons c cs ih =>
    intro k i y m hn hx hy hl hk h0 h1
    obtain ⟨k, rfl⟩ : ∃ m, k = m + 1 := ⟨k - 1, by omega⟩
    simp only [List.length_cons] at hl hk
    rw [tot] at h1 ⊢
    have hc := hx c List.mem_cons_self
    rw [drop61 y i (by omega), mkd] at hy
    injection hy with hy1 hy2
    rw [laws_heldQueueS.l0, if_pos (by omega), if_pos (by omega), hy1]
    dsimp only
    rw [heldIntS_is c.f0.length m k (by omega) (by omega) h0 (by omega), Option.bind_some, if_neg (by omega), if_pos rfl, wrap_in (x := m + (c.f0.length : Int) + 1) (by omega) (by omega), if_pos rfl, wrap_in (x := m + (c.f0.length : Int) + 1 + 1) (by omega) (by omega), wrap_succ (n := y.length) (by omega) (by omega)]
    rw [ih k (i + 1) y (m + (c.f0.length : Int) + 1 + 1) hn (fun z hz => hx z (List.mem_cons_of_mem _ hz)) (by rw [hy2, show m + (c.f0.length : Int) + 1 + 1 = m + c.f0.length + 2 by omega]) (by omega) (by omega) (by omega) (by omega)]
    congr 1
    omega
theorem mkd_len : ∀ (cs : List S61) (m : Int), (mkd m cs).length = cs.length
  | [], _ => rfl
  | c :: cs, m => by rw [mkd, List.length_cons, mkd_len cs, List.length_cons]
/-- A row marked is held. -/
theorem mark_held (x : List S61) (hn : x.length ≤ 1048576) (hx : ∀ c ∈ x, c.f0.length ≤ 1048576) (ht : tot x ≤ 1000000000000) (k : Nat) (hk : 2097154 < k) : ∃ (m : Int) (y : List S61), 0 ≤ m ∧ laws_markQueueS.f k x 1 = some (m, y) ∧ laws_heldQueueS.f k y 1 = some m := by
  have a := markQ_l0 x.length k 0 x 1 hn hx (by omega) (by omega) (by omega) (by omega) (by rw [List.drop_zero]; omega)
  rw [List.drop_zero, List.take_zero, List.nil_append] at a
  have b := heldQ_l0 x k 0 (mkd 1 x) 1 (by rw [mkd_len]; exact hn) hx (List.drop_zero) (by rw [mkd_len]; omega) (by omega) (by omega) (by omega)
  exact ⟨1 + tot x, mkd 1 x, by omega, a, b⟩

theorem new_is (a b : Int) : ∃ (q : Int) (n : Nat) (r : Int) (ok : Bool), n ≤ 6 ∧ spec_NewTurns.f a b = some (q, List.replicate n z61, r, ok) := by
  unfold spec_NewTurns.f
  rw [sin_is, sin_is, Option.bind_some, Option.bind_some]
  by_cases c1 : 1 ≤ a ∧ a ≤ 50
  · rw [decide_eq_true c1, if_pos rfl]
    by_cases c2 : 1 ≤ b ∧ b ≤ 6
    · rw [decide_eq_true c2, if_pos rfl, if_pos (by omega), if_pos (by omega)]
      exact ⟨_, b.toNat, _, _, by omega, rfl⟩
    · rw [decide_eq_false c2, if_neg Bool.false_ne_true]
      exact ⟨0, 0, 0, false, by omega, rfl⟩
  · rw [decide_eq_false c1, if_neg Bool.false_ne_true]
    exact ⟨0, 0, 0, false, by omega, rfl⟩
theorem tot_rep : ∀ n, tot (List.replicate n z61) = 2 * n
  | 0 => rfl
  | n + 1 => by
    rw [List.replicate_succ, tot, tot_rep n]
    simp only [z61, List.length_nil]
    omega
theorem FnExactNewTurns : laws_FnExactNewTurns.Stmt := by
  intro a0 a1 _ _
  refine ⟨3000000, ?_⟩
  obtain ⟨q, n, r, ok, hn, e⟩ := new_is a0 a1
  have hx : ∀ c ∈ List.replicate n z61, c.f0.length ≤ 1048576 := fun c hc => by
    rw [List.eq_of_mem_replicate hc]
    simp [z61]
  have h1 := eqQ_same (List.replicate n z61) (by rw [List.length_replicate]; omega) hx 3000000 (by omega)
  obtain ⟨m, y, h3, h2, h4⟩ := mark_held (List.replicate n z61) (by rw [List.length_replicate]; omega) hx (by rw [tot_rep]; omega) 3000000 (by omega)
  unfold laws_FnExactNewTurns.f laws_eqTurns.f laws_markTurns.f laws_heldTurns.f
  rw [e, Option.bind_some]
  dsimp only
  rw [if_pos rfl, h1, Option.bind_some, if_pos rfl, if_pos rfl, Option.bind_some, if_pos rfl, h2, Option.bind_some]
  dsimp only
  rw [h4, Option.bind_some, if_neg (by omega), Option.bind_some, if_pos rfl, if_neg (by omega)]

end Go.Proofs.Ytanegdfncfkinaa.Pure
