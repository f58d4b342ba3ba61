/- The program's JoinMembers returns what the reference's returns, for all pairs of lists; it writes into none and its list is new memory. -/
import Derived.Test.YteneeohaoplpbaaXFnExactJoinMembersx4
set_option linter.unusedVariables false
set_option linter.unusedSimpArgs false
namespace Go.Proofs.Yteneeohaoplpbaa.Pure
open Go.RowKit Go.Proofs.Yteneeohaoplpbaa.XFnExactJoinMembers Go.Proofs.YteneeohaoplpbaaW.PrintWords Go.Proofs.YteneeohaoplpbaaW.PrintLast Go.Proofs.YteneeohaoplpbaaW.PrintMore

/-- What is to be shown of FnExactJoinMembers, in numbers and lists alone. -/
def laws_FnExactJoinMembers.Stmt : Prop := ∀ (l0 : List Int) (l1 : List Int), (l0.length ≤ maxLen ∧ ∀ x ∈ l0, (Lit.int .i64 x).wf = true) → (l1.length ≤ maxLen ∧ ∀ x ∈ l1, (Lit.int .i64 x).wf = true) → ∃ k, laws_FnExactJoinMembers.f k l0 l1 = some true

theorem wrap_in {x : Int} (h0 : -9223372036854775808 ≤ x) (h1 : x ≤ 9223372036854775807) : wrap64 x = x := by
  unfold wrap64
  omega
theorem wrap_succ {i n : Nat} (h : i < n) (hn : n ≤ 9223372036854775807) : wrap64 ((i : Int) + 1) = ((i + 1 : Nat) : Int) := by
  rw [wrap_in (by omega) (by omega)]
  omega

theorem eqIntS_l0 (a : List Int) (hn : a.length ≤ 9223372036854775807) (d : Nat) : ∀ (k i : Nat), a.length - i = d → d < k → laws_eqIntS.l0 k a a (i : Int) = some true := by
  induction d with
  | zero =>
    intro k i hd hk
    obtain ⟨k, rfl⟩ : ∃ m, k = m + 1 := ⟨k - 1, by omega⟩
    simp only [laws_eqIntS.l0]
    rw [if_neg (by omega)]
  | succ d ih =>
    intro k i hd hk
    obtain ⟨k, rfl⟩ : ∃ m, k = m + 1 := ⟨k - 1, by omega⟩
    simp only [laws_eqIntS.l0]
    rw [if_pos (by omega), if_pos (by omega), if_pos (by omega), if_pos trivial, wrap_succ (n := a.length) (by omega) hn]
    exact ih k (i + 1) (by omega) (by omega)
theorem eqIntS_same (a : List Int) (hn : a.length ≤ 9223372036854775807) (k : Nat) (hk : a.length < k) : laws_eqIntS.f k a a = some true := by
  unfold laws_eqIntS.f
  rw [if_pos rfl]
  exact eqIntS_l0 a hn a.length k 0 (by omega) hk

theorem markIntS_l0 (d : Nat) : ∀ (k i : Nat) (x : List Int) (m : Int), x.length ≤ 9223372036854775807 → x.length - i = d → i ≤ x.length → d < k → 0 ≤ m → m + d ≤ 9223372036854775807 →
    laws_markIntS.l0 k x m (i : Int) = some (m + d, x.take i ++ (List.range d).map (fun j : Nat => m + j)) := by
  induction d with
  | zero =>
    intro k i x m hn hd hi hk h0 h1
    obtain ⟨k, rfl⟩ : ∃ m, k = m + 1 := ⟨k - 1, by omega⟩
    simp only [laws_markIntS.l0]
    rw [if_neg (by omega), List.take_of_length_le (by omega)]
    simp
  | succ d ih =>
    intro k i x m hn hd hi hk h0 h1
    obtain ⟨k, rfl⟩ : ∃ m, k = m + 1 := ⟨k - 1, by omega⟩
    simp only [laws_markIntS.l0]
    rw [if_pos (by omega), if_pos (by omega), wrap_succ (n := x.length) (by omega) hn, wrap_in (by omega) (by omega),
      ih k (i + 1) (x.set (i : Int).toNat m) (m + 1) (by simpa using hn) (by rw [List.length_set]; omega) (by rw [List.length_set]; omega) (by omega) (by omega) (by omega)]
    have hi' : i < x.length := by omega
    have e1 : (x.set i m).take (i + 1) = x.take i ++ [m] := by
      rw [List.take_add_one, List.take_set_of_le (Nat.le_refl i), List.getElem?_set_self hi']
      rfl
    rw [show (i : Int).toNat = i from rfl, e1, List.range_succ_eq_map, List.map_cons, List.map_map]
    simp only [List.append_assoc, List.cons_append, List.nil_append]
    congr 1
    refine Prod.ext (by simp; omega) ?_
    simp only [Function.comp_def]
    congr 1
    congr 1
    · simp
    · exact List.map_congr_left fun j _ => by simp; omega
theorem markIntS_is (x : List Int) (m : Int) (k : Nat) (hn : x.length ≤ 1000000000000) (hk : x.length < k) (h0 : 0 ≤ m) (h1 : m ≤ 1000000000000000) :
    laws_markIntS.f k x m = some (m + x.length, (List.range x.length).map (fun j : Nat => m + j)) := by
  unfold laws_markIntS.f
  have := markIntS_l0 x.length k 0 x m (by omega) (by omega) (by omega) hk h0 (by omega)
  simpa using this

theorem heldIntS_l0 (d : Nat) : ∀ (k i : Nat) (x : List Int) (m : Int), x.length ≤ 9223372036854775807 → x.length - i = d → i ≤ x.length → d < k → 0 ≤ m → m + d ≤ 9223372036854775807 →
    (∀ j : Nat, j < d → x.getD (i + j) 0 = m + j) → laws_heldIntS.l0 k x m (i : Int) = some (m + d) := by
  induction d with
  | zero =>
    intro k i x m hn hd hi hk h0 h1 hx
    obtain ⟨k, rfl⟩ : ∃ m, k = m + 1 := ⟨k - 1, by omega⟩
    simp only [laws_heldIntS.l0]
    rw [if_neg (by omega)]
    simp
  | succ d ih =>
    intro k i x m hn hd hi hk h0 h1 hx
    obtain ⟨k, rfl⟩ : ∃ m, k = m + 1 := ⟨k - 1, by omega⟩
    simp only [laws_heldIntS.l0]
    have e := hx 0 (by omega)
    rw [if_pos (by omega), if_pos (by omega), if_pos (by unfold rd; simpa using e), wrap_succ (n := x.length) (by omega) hn, wrap_in (by omega) (by omega),
      ih k (i + 1) x (m + 1) hn (by omega) (by omega) (by omega) (by omega) (by omega) (fun j hj => by have := hx (j + 1) (by omega); rw [show i + 1 + j = i + (j + 1) by omega, this]; omega)]
    congr 1
    omega
theorem heldIntS_is (n : Nat) (m : Int) (k : Nat) (hn : n ≤ 1000000000000) (hk : n < k) (h0 : 0 ≤ m) (h1 : m ≤ 1000000000000000) :
    laws_heldIntS.f k ((List.range n).map (fun j : Nat => m + j)) m = some (m + n) := by
  unfold laws_heldIntS.f
  have := heldIntS_l0 n k 0 ((List.range n).map (fun j : Nat => m + j)) m (by simp; omega) (by simp) (by simp) hk h0 (by omega) (fun j hj => by
    simp [List.getD_eq_getElem?_getD, List.getElem?_range hj])
  simpa using this

theorem toIntS_l0 (a : List Int) (hn : a.length ≤ 9223372036854775807) (d : Nat) : ∀ (k i : Nat) (x : List Int), a.length - i = d → i ≤ a.length → x.length = a.length → d < k → laws_toIntS.l0 k a x (i : Int) = some (x.take i ++ a.drop i) := by
  induction d with
  | zero =>
    intro k i x hd hi hx hk
    obtain ⟨k, rfl⟩ : ∃ m, k = m + 1 := ⟨k - 1, by omega⟩
    simp only [laws_toIntS.l0]
    rw [if_neg (by omega), List.take_of_length_le (by omega), List.drop_of_length_le (by omega), List.append_nil]
  | succ d ih =>
    intro k i x hd hi hx hk
    obtain ⟨k, rfl⟩ : ∃ m, k = m + 1 := ⟨k - 1, by omega⟩
    simp only [laws_toIntS.l0]
    rw [if_pos (by omega), if_pos (by omega), if_pos (by omega), wrap_succ (n := a.length) (by omega) hn, ih k (i + 1) _ (by omega) (by omega) (by rw [List.length_set]; exact hx) (by omega)]
    have hi' : i < x.length := by omega
    have hia : i < a.length := by omega
    have e1 : (x.set (i : Int).toNat (rd a (i : Int))).take (i + 1) = x.take i ++ [rd a (i : Int)] := by
      rw [show (i : Int).toNat = i from rfl, List.take_add_one, List.take_set_of_le (Nat.le_refl i), List.getElem?_set_self hi']
      rfl
    have e2 : a.drop i = rd a (i : Int) :: a.drop (i + 1) := by
      rw [List.drop_eq_getElem_cons hia]
      unfold rd
      simp [List.getD_eq_getElem?_getD, List.getElem?_eq_getElem hia]
    rw [e1, e2]
    simp
theorem toIntS_is (a : List Int) (hn : a.length ≤ 35184372088832) (k : Nat) (hk : a.length < k) : laws_toIntS.f k a = some a := by
  unfold laws_toIntS.f
  rw [if_pos (by omega), if_pos (by simpa using hn)]
  have := toIntS_l0 a (by omega) a.length k 0 (List.replicate a.length 0) (by omega) (by omega) (by simp) hk
  simpa using this

/-! Who is reached in time. -/
theorem rise_l0 (x : List Int) (hn : x.length ≤ 1048576) (d : Nat) : ∀ i : Nat, x.length - i = d → i ≤ x.length → ∃ b : Bool, ∀ k, d < k → spec_l1Some.l0 k x 8 x (x.length : Int) (i : Int) = some b ∧ impl_rise.l0 k x 8 x (x.length : Int) (i : Int) = some b := by
  induction d with
  | zero =>
    intro i hd hi
    refine ⟨true, fun k hk => ?_⟩
    obtain ⟨k, rfl⟩ : ∃ m, k = m + 1 := ⟨k - 1, by omega⟩
    have c : ¬ (i : Int) < (x.length : Int) := by omega
    rw [spec_l1Some.l0, impl_rise.l0, if_neg c, if_neg c]
    exact ⟨by first | trivial | rfl, by first | trivial | rfl⟩
  | succ d ih =>
    intro i hd hi
    have c : (i : Int) < (x.length : Int) := by omega
    have c0 : 0 ≤ (i : Int) := by omega
    have wr : wrap64 ((i : Int) + 1) = ((i + 1 : Nat) : Int) := wrap_succ (n := x.length) (by omega) (by omega)
    obtain ⟨b, e⟩ := ih (i + 1) (by omega) (by omega)
    by_cases c1 : rd x (i : Int) < 0
    · refine ⟨false, fun k hk => ?_⟩
      obtain ⟨k, rfl⟩ : ∃ m, k = m + 1 := ⟨k - 1, by omega⟩
      rw [spec_l1Some.l0, impl_rise.l0, if_pos c, if_pos c, if_pos c0, if_pos c0, if_pos c, if_pos c, if_pos c1, if_pos c1]
      exact ⟨by first | trivial | rfl, by first | trivial | rfl⟩
    · by_cases c2 : rd x (i : Int) ≥ 8
      · refine ⟨false, fun k hk => ?_⟩
        obtain ⟨k, rfl⟩ : ∃ m, k = m + 1 := ⟨k - 1, by omega⟩
        rw [spec_l1Some.l0, impl_rise.l0, if_pos c, if_pos c, if_pos c0, if_pos c0, if_pos c, if_pos c, if_neg c1, if_neg c1, if_pos c2, if_pos c2]
        exact ⟨by first | trivial | rfl, by first | trivial | rfl⟩
      · by_cases c3 : (i : Int) > 0
        · have w1 : wrap64 ((i : Int) - 1) = (i : Int) - 1 := wrap_in (by omega) (by omega)
          have c4 : 0 ≤ (i : Int) - 1 := by omega
          have c5 : (i : Int) - 1 < (x.length : Int) := by omega
          by_cases c6 : rd x ((i : Int) - 1) ≥ rd x (i : Int)
          · refine ⟨false, fun k hk => ?_⟩
            obtain ⟨k, rfl⟩ : ∃ m, k = m + 1 := ⟨k - 1, by omega⟩
            have c6' : rd x (i : Int) ≤ rd x ((i : Int) - 1) := c6
            rw [spec_l1Some.l0, impl_rise.l0, if_pos c, if_pos c, if_pos c0, if_pos c0, if_pos c, if_pos c, if_neg c1, if_neg c1, if_neg c2, if_neg c2, if_pos c3, if_pos c3, w1, if_pos c4, if_pos c4, if_pos c5, if_pos c5, if_pos c6, if_pos c6']
            exact ⟨by first | trivial | rfl, by first | trivial | rfl⟩
          · refine ⟨b, fun k hk => ?_⟩
            obtain ⟨k, rfl⟩ : ∃ m, k = m + 1 := ⟨k - 1, by omega⟩
            have c6' : ¬ rd x (i : Int) ≤ rd x ((i : Int) - 1) := c6
            rw [spec_l1Some.l0, impl_rise.l0, if_pos c, if_pos c, if_pos c0, if_pos c0, if_pos c, if_pos c, if_neg c1, if_neg c1, if_neg c2, if_neg c2, if_pos c3, if_pos c3, w1, if_pos c4, if_pos c4, if_pos c5, if_pos c5, if_neg c6, if_neg c6', wr]
            exact e k (by omega)
        · refine ⟨b, fun k hk => ?_⟩
          obtain ⟨k, rfl⟩ : ∃ m, k = m + 1 := ⟨k - 1, by omega⟩
          rw [spec_l1Some.l0, impl_rise.l0, if_pos c, if_pos c, if_pos c0, if_pos c0, if_pos c, if_pos c, if_neg c1, if_neg c1, if_neg c2, if_neg c2, if_neg c3, if_neg c3, wr]
          exact e k (by omega)
theorem rise_is (x : List Int) (hn : x.length ≤ 1048576) : ∃ b : Bool, ∀ k, 1048577 < k → spec_l1Some.f k x 8 = some b ∧ impl_areMembers.f k x = some b := by
  obtain ⟨b, e⟩ := rise_l0 x hn x.length 0 (by omega) (by omega)
  refine ⟨b, fun k hk => ?_⟩
  unfold spec_l1Some.f impl_areMembers.f impl_rise.f
  have h := e k (by omega)
  exact ⟨h.1, by rw [show (0 : Int) = ((0 : Nat) : Int) from rfl, h.2]; rfl⟩

/-! Rising rows: put one in, sort and compact. -/
theorem asc_ext : ∀ (a b : List Int), a.Pairwise (· < ·) → b.Pairwise (· < ·) → (∀ x, x ∈ a ↔ x ∈ b) → a = b := by
  intro a
  induction a with
  | nil =>
    intro b _ _ h
    cases b with
    | nil => rfl
    | cons y ys => exact absurd ((h y).2 (List.mem_cons_self ..)) (by simp)
  | cons x xs ih =>
    intro b ha hb h
    cases b with
    | nil => exact absurd ((h x).1 (List.mem_cons_self ..)) (by simp)
    | cons y ys =>
      obtain ⟨h1, h2⟩ := List.pairwise_cons.1 ha
      obtain ⟨h3, h4⟩ := List.pairwise_cons.1 hb
      have e : x = y := by
        rcases List.mem_cons.1 ((h x).1 (List.mem_cons_self ..)) with e | e
        · exact e
        · rcases List.mem_cons.1 ((h y).2 (List.mem_cons_self ..)) with e' | e'
          · exact e'.symm
          · have := h3 _ e
            have := h1 _ e'
            omega
      subst e
      have : xs = ys := ih ys h2 h4 (fun z => by
        have hz := h z
        simp only [List.mem_cons] at hz
        constructor
        · intro m
          rcases hz.1 (.inr m) with e | e
          · subst e
            exact absurd (h1 _ m) (by omega)
          · exact e
        · intro m
          rcases hz.2 (.inr m) with e | e
          · subst e
            exact absurd (h3 _ m) (by omega)
          · exact e)
      rw [this]
def putI (n : Int) : List Int → List Int
  | [] => [n]
  | x :: xs => if x < n then x :: putI n xs else if x = n then x :: xs else n :: x :: xs
theorem putI_mem (n : Int) : ∀ (l : List Int) (z : Int), z ∈ putI n l ↔ z = n ∨ z ∈ l := by
  intro l
  induction l with
  | nil => intro z; simp [putI]
  | cons x xs ih =>
    intro z
    unfold putI
    by_cases c : x < n
    · rw [if_pos c, List.mem_cons, ih, List.mem_cons]
      constructor
      · rintro (h | h | h)
        · exact .inr (.inl h)
        · exact .inl h
        · exact .inr (.inr h)
      · rintro (h | h | h)
        · exact .inr (.inl h)
        · exact .inl h
        · exact .inr (.inr h)
    · rw [if_neg c]
      by_cases c2 : x = n
      · rw [if_pos c2, List.mem_cons]
        constructor
        · exact .inr
        · rintro (h | h)
          · exact .inl (by omega)
          · exact h
      · rw [if_neg c2, List.mem_cons]
theorem putI_asc (n : Int) : ∀ (l : List Int), l.Pairwise (· < ·) → (putI n l).Pairwise (· < ·) := by
  intro l
  induction l with
  | nil => intro _; simp [putI]
  | cons x xs ih =>
    intro h
    obtain ⟨h1, h2⟩ := List.pairwise_cons.1 h
    unfold putI
    by_cases c : x < n
    · rw [if_pos c]
      refine List.pairwise_cons.2 ⟨fun z hz => ?_, ih h2⟩
      rcases (putI_mem n xs z).1 hz with e | e
      · omega
      · exact h1 z e
    · rw [if_neg c]
      by_cases c2 : x = n
      · rw [if_pos c2]
        exact h
      · rw [if_neg c2]
        refine List.pairwise_cons.2 ⟨fun z hz => ?_, h⟩
        rcases List.mem_cons.1 hz with e | e
        · omega
        · have := h1 z e
          omega
theorem putI_len (n : Int) : ∀ (l : List Int), (putI n l).length ≤ l.length + 1 := by
  intro l
  induction l with
  | nil => simp [putI]
  | cons x xs ih =>
    unfold putI
    by_cases c : x < n
    · rw [if_pos c]
      simp only [List.length_cons]
      omega
    · rw [if_neg c]
      by_cases c2 : x = n
      · rw [if_pos c2]
        simp only [List.length_cons]
        omega
      · rw [if_neg c2]
        simp only [List.length_cons]
        omega
theorem rd_at (a : List Int) (u : Int) (c : List Int) (i : Nat) (hi : i = a.length) : rd (a ++ u :: c) (i : Int) = u := by
  subst hi
  unfold rd
  rw [show ((a.length : Nat) : Int).toNat = a.length from rfl]
  simp [List.getD_eq_getElem?_getD]
theorem sput_l0 (n : Int) : ∀ (c a : List Int) (k : Nat), c.length < k → a.length + c.length ≤ 1000000000000 → spec_l7Put.l0 k (a ++ c) n (a.length : Int) = some (a ++ putI n c) := by
  intro c
  induction c with
  | nil =>
    intro a k hk hl
    obtain ⟨k, rfl⟩ : ∃ m, k = m + 1 := ⟨k - 1, by omega⟩
    rw [spec_l7Put.l0, List.append_nil, if_neg (by omega), if_pos (by omega), if_pos (by omega)]
    simp only [Option.bind_some, List.nil_append, List.length_nil, Int.toNat_natCast, List.take_length, List.drop_length, List.length_append, List.length_singleton]
    rw [if_pos (by omega), if_pos (by simp at hl; omega), if_pos (by simp at hl ⊢; omega)]
    simp [putI]
  | cons x xs ih =>
    intro a k hk hl
    simp only [List.length_cons] at hk hl
    obtain ⟨k, rfl⟩ : ∃ m, k = m + 1 := ⟨k - 1, by omega⟩
    rw [spec_l7Put.l0, if_pos (by simp only [List.length_append, List.length_cons]; omega), if_pos (by omega), rd_at a x xs a.length rfl]
    unfold putI
    by_cases c : x < n
    · rw [if_pos c, if_pos c, wrap_in (by omega) (by omega)]
      have h := ih (a ++ [x]) k (by omega) (by simp only [List.length_append, List.length_singleton]; omega)
      rw [List.append_assoc, List.singleton_append, List.append_assoc, List.singleton_append, List.length_append, List.length_singleton] at h
      exact h
    · rw [if_neg c, if_neg c]
      by_cases c2 : x = n
      · rw [if_pos c2, if_pos c2]
      · rw [if_neg c2, if_neg c2, if_pos (by simp only [List.length_append, List.length_cons]; omega)]
        simp only [Option.bind_some, List.nil_append, List.length_nil, Int.toNat_natCast, List.take_left, List.drop_left, List.length_append, List.length_singleton, List.length_cons]
        rw [if_pos (by omega), if_pos (by omega), if_pos (by omega)]
        simp
theorem sput_is (n : Int) (l : List Int) (hl : l.length ≤ 1000000000000) (k : Nat) (hk : l.length < k) : spec_l7Put.f k l n = some (putI n l) := by
  have h := sput_l0 n l [] k hk (by simpa using hl)
  unfold spec_l7Put.f
  simpa using h
theorem comp_is (l : List Int) (hl : l.length ≤ 100000000000) (k : Nat) (hk : l.length + 1 < k) : slices_Compact_int_int.f k l = some (comp l) := rfl
theorem dda_asc : ∀ (c : List Int) (u : Int), (u :: c).Pairwise (· ≤ ·) → (u :: dda u c).Pairwise (· < ·) ∧ ∀ y, y ∈ u :: dda u c ↔ y ∈ u :: c := by
  intro c
  induction c with
  | nil => intro u _; exact ⟨by simp [dda], fun y => by simp [dda]⟩
  | cons v c ih =>
    intro u h
    obtain ⟨h1, h2⟩ := List.pairwise_cons.1 h
    unfold dda
    by_cases e : v = u
    · subst e
      rw [if_pos rfl]
      obtain ⟨g1, g2⟩ := ih v h2
      exact ⟨g1, fun y => by rw [g2 y]; simp⟩
    · rw [if_neg e]
      obtain ⟨g1, g2⟩ := ih v h2
      have huv := h1 v (List.mem_cons_self ..)
      refine ⟨List.pairwise_cons.2 ⟨fun z hz => ?_, g1⟩, fun y => ?_⟩
      · rcases List.mem_cons.1 ((g2 z).1 hz) with e2 | e2
        · omega
        · have := (List.pairwise_cons.1 h2).1 z e2
          omega
      · rw [List.mem_cons, g2 y, List.mem_cons, List.mem_cons, List.mem_cons]
theorem comp_sort (l : List Int) : (comp (l.mergeSort fun x y => decide (x ≤ y))).Pairwise (· < ·) ∧ ∀ y, y ∈ comp (l.mergeSort fun x y => decide (x ≤ y)) ↔ y ∈ l := by
  have hp : (l.mergeSort fun x y => decide (x ≤ y)).Pairwise (· ≤ ·) := by
    have h := List.pairwise_mergeSort (le := fun x y : Int => decide (x ≤ y)) (fun a b c h1 h2 => by simp at h1 h2 ⊢; omega) (fun a b => by simp; omega) l
    exact h.imp (fun h => by simpa using h)
  have hm : ∀ y, y ∈ (l.mergeSort fun x y => decide (x ≤ y)) ↔ y ∈ l := fun y => List.mem_mergeSort
  generalize (l.mergeSort fun x y => decide (x ≤ y)) = s at hp hm
  cases s with
  | nil => exact ⟨by simp [comp], fun y => by rw [comp]; exact hm y⟩
  | cons u c =>
    obtain ⟨g1, g2⟩ := dda_asc c u hp
    exact ⟨g1, fun y => by rw [comp, g2 y]; exact hm y⟩
/-- One after the other is put in. -/
def puts (acc : List Int) (xs : List Int) : List Int := xs.foldl (fun a n => putI n a) acc
theorem puts_asc (xs : List Int) : ∀ acc : List Int, acc.Pairwise (· < ·) → (puts acc xs).Pairwise (· < ·) ∧ ∀ y, y ∈ puts acc xs ↔ y ∈ acc ∨ y ∈ xs := by
  induction xs with
  | nil => intro acc h; exact ⟨h, fun y => by simp [puts]⟩
  | cons x xs ih =>
    intro acc h
    obtain ⟨g1, g2⟩ := ih (putI x acc) (putI_asc x acc h)
    refine ⟨g1, fun y => ?_⟩
    rw [show puts acc (x :: xs) = puts (putI x acc) xs from rfl, g2 y, putI_mem, List.mem_cons]
    constructor
    · rintro ((h | h) | h)
      · exact .inr (.inl h)
      · exact .inl h
      · exact .inr (.inr h)
    · rintro (h | h | h)
      · exact .inl (.inr h)
      · exact .inl (.inl h)
      · exact .inr h
theorem puts_len (xs : List Int) : ∀ acc : List Int, (puts acc xs).length ≤ acc.length + xs.length := by
  induction xs with
  | nil => intro acc; simp [puts]
  | cons x xs ih =>
    intro acc
    have h := ih (putI x acc)
    have h2 := putI_len x acc
    rw [show puts acc (x :: xs) = puts (putI x acc) xs from rfl, List.length_cons]
    omega
theorem puts_sort (xs : List Int) : puts [] xs = comp (xs.mergeSort fun x y => decide (x ≤ y)) := by
  obtain ⟨a1, a2⟩ := puts_asc xs [] List.Pairwise.nil
  obtain ⟨b1, b2⟩ := comp_sort xs
  exact asc_ext _ _ a1 b1 (fun y => by rw [a2 y, b2 y]; simp)
theorem sort_is (l : List Int) (hl : l.length ≤ 1000000000000) (k : Nat) : slices_Sort_int_int.f k l = some (l.mergeSort fun x y => decide (x ≤ y)) := by
  unfold slices_Sort_int_int.f
  rw [if_pos (by omega)]

/-! Both groups: rising rows. -/
theorem dropI (l : List Int) (i : Nat) (h : i < l.length) : l.drop i = rd l (i : Int) :: l.drop (i + 1) := by
  rw [List.drop_eq_getElem_cons h]
  unfold rd
  simp [List.getD_eq_getElem?_getD, List.getElem?_eq_getElem h]
theorem rise_asc (x : List Int) (hn : x.length ≤ 1048576) (d : Nat) : ∀ (i k : Nat), x.length - i = d → i ≤ x.length → impl_rise.l0 k x 8 x (x.length : Int) (i : Int) = some true → (x.drop i).Pairwise (· < ·) ∧ (0 < i → ∀ z ∈ x.drop i, rd x ((i : Int) - 1) < z) := by
  induction d with
  | zero =>
    intro i k hd hi h
    rw [List.drop_eq_nil_of_le (by omega)]
    exact ⟨List.Pairwise.nil, fun _ z hz => by cases hz⟩
  | succ d ih =>
    intro i k hd hi h
    cases k with
    | zero => simp [impl_rise.l0] at h
    | succ k =>
      have c : (i : Int) < (x.length : Int) := by omega
      have c0 : 0 ≤ (i : Int) := by omega
      have wr : wrap64 ((i : Int) + 1) = ((i + 1 : Nat) : Int) := wrap_succ (n := x.length) (by omega) (by omega)
      rw [impl_rise.l0, if_pos c, if_pos c0, if_pos c] at h
      by_cases c1 : rd x (i : Int) < 0
      · rw [if_pos c1] at h
        cases h
      · rw [if_neg c1] at h
        by_cases c2 : rd x (i : Int) ≥ 8
        · rw [if_pos c2] at h
          cases h
        · rw [if_neg c2] at h
          by_cases c3 : (i : Int) > 0
          · have w1 : wrap64 ((i : Int) - 1) = (i : Int) - 1 := wrap_in (by omega) (by omega)
            rw [if_pos c3, w1, if_pos (by omega), if_pos (by omega)] at h
            by_cases c6 : rd x (i : Int) ≤ rd x ((i : Int) - 1)
            · rw [if_pos c6] at h
              cases h
            · rw [if_neg c6, wr] at h
              obtain ⟨h1, h2⟩ := ih (i + 1) k (by omega) (by omega) h
              have h3 := h2 (by omega)
              rw [show ((i + 1 : Nat) : Int) - 1 = (i : Int) by omega] at h3
              rw [dropI x i (by omega)]
              refine ⟨List.pairwise_cons.2 ⟨h3, h1⟩, fun _ z hz => ?_⟩
              rcases List.mem_cons.1 hz with e | e
              · omega
              · have := h3 z e
                omega
          · rw [if_neg c3, wr] at h
            obtain ⟨h1, h2⟩ := ih (i + 1) k (by omega) (by omega) h
            have h3 := h2 (by omega)
            rw [show ((i + 1 : Nat) : Int) - 1 = (i : Int) by omega] at h3
            rw [dropI x i (by omega)]
            exact ⟨List.pairwise_cons.2 ⟨h3, h1⟩, fun hh => absurd hh (by omega)⟩
theorem sjoin_l0 (x : List Int) (hx : x.length ≤ 1048576) (d : Nat) : ∀ (i : Nat) (acc : List Int), x.length - i = d → i ≤ x.length → acc.length + d ≤ 8000000 →
    ∀ k, d + 8000001 < k → spec_JoinMembers.l0 k acc x (x.length : Int) (i : Int) = some (puts acc (x.drop i), true) := by
  induction d with
  | zero =>
    intro i acc hd hi ha k hk
    obtain ⟨k, rfl⟩ : ∃ m, k = m + 1 := ⟨k - 1, by omega⟩
    have c : ¬ (i : Int) < (x.length : Int) := by omega
    rw [spec_JoinMembers.l0, if_neg c, List.drop_eq_nil_of_le (by omega)]
    rfl
  | succ d ih =>
    intro i acc hd hi ha k hk
    obtain ⟨k, rfl⟩ : ∃ m, k = m + 1 := ⟨k - 1, by omega⟩
    have c : (i : Int) < (x.length : Int) := by omega
    have c0 : 0 ≤ (i : Int) := by omega
    have wr : wrap64 ((i : Int) + 1) = ((i + 1 : Nat) : Int) := wrap_succ (n := x.length) (by omega) (by omega)
    have hp := putI_len (rd x (i : Int)) acc
    rw [spec_JoinMembers.l0, if_pos c, if_pos c0, if_pos c, sput_is _ _ (by omega) k (by omega), Option.bind_some, wr, ih (i + 1) _ (by omega) (by omega) (by omega) k (by omega), dropI x i (by omega)]
    rfl
theorem concat_is (a b : List Int) (ha : a.length ≤ 1048576) (hb : b.length ≤ 1048576) (k : Nat) (hk : 10 < k) : slices_Concat_int_int.f k [a, b] = some (a ++ b) := by
  obtain ⟨k, rfl⟩ : ∃ m, k = m + 6 := ⟨k - 6, by omega⟩
  have r0 : rd_L1 [a, b] 0 = a := rfl
  have r1 : rd_L1 [a, b] 1 = b := rfl
  have w0 : wrap64 (0 + (a.length : Int)) = (a.length : Int) := by rw [wrap_in (by omega) (by omega)]; omega
  have w1 : wrap64 ((a.length : Int) + (b.length : Int)) = (a.length : Int) + (b.length : Int) := wrap_in (by omega) (by omega)
  have w2 : wrap64 (0 + 1) = 1 := by rw [wrap_in (by omega) (by omega)]; omega
  have w3 : wrap64 (1 + 1) = 2 := by rw [wrap_in (by omega) (by omega)]; omega
  have hl : (([a, b] : List (List Int)).length : Int) = 2 := rfl
  unfold slices_Concat_int_int.f
  rw [hl, slices_Concat_int_int.l0, if_pos (by omega), if_pos (by omega), hl, if_pos (by omega), r0, w0, if_neg (by omega), w2,
    slices_Concat_int_int.l0, if_pos (by omega), if_pos (by omega), hl, if_pos (by omega), r1, w1, if_neg (by omega), w3,
    slices_Concat_int_int.l0, if_neg (by omega)]
  unfold slices_Grow_int_int.f
  rw [if_pos ⟨rfl, by omega, by omega⟩, Option.bind_some, hl, slices_Concat_int_int.l1, if_pos (by omega), if_pos (by omega), hl, if_pos (by omega), r0, if_pos (by simp only [List.length_nil]; omega), w2, List.nil_append,
    slices_Concat_int_int.l1, if_pos (by omega), if_pos (by omega), hl, if_pos (by omega), r1, if_pos (by omega), w3, slices_Concat_int_int.l1, if_neg (by omega)]
theorem sjoin_f (a b : List Int) (m n : Bool) (k : Nat) (hm : spec_l1Some.f (k + 1) a 8 = some m) (hn : spec_l1Some.f (k + 1) b 8 = some n) : spec_JoinMembers.f (k + 1) a b = spec_JoinMembers.j0 (k + 1) a b (!(m && n)) := by
  unfold spec_JoinMembers.f
  rw [hm, Option.bind_some]
  cases m with
  | false => rw [if_neg Bool.false_ne_true]; rfl
  | true => rw [if_pos rfl, hn, Option.bind_some]; rfl
theorem ijoin_f (a b : List Int) (m n : Bool) (k : Nat) (hm : impl_areMembers.f (k + 1) a = some m) (hn : impl_areMembers.f (k + 1) b = some n) : impl_JoinMembers.f (k + 1) a b = impl_JoinMembers.j0 (k + 1) a b (!(m && n)) := by
  unfold impl_JoinMembers.f
  rw [hm, Option.bind_some]
  cases m with
  | false => rw [if_neg Bool.false_ne_true]; rfl
  | true => rw [if_pos rfl, hn, Option.bind_some]; rfl
theorem sjoin_j (k : Nat) (a b : List Int) : spec_JoinMembers.j0 (k + 1) a b true = some ([], false) := by rw [spec_JoinMembers.j0, if_pos rfl]
theorem ijoin_j (k : Nat) (a b : List Int) : impl_JoinMembers.j0 (k + 1) a b true = some ([], false) := by rw [impl_JoinMembers.j0, if_pos rfl]
theorem rise_pair (x : List Int) (hn : x.length ≤ 1048576) (k : Nat) (h : impl_areMembers.f k x = some true) : x.Pairwise (· < ·) := by
  unfold impl_areMembers.f impl_rise.f at h
  cases e : impl_rise.l0 k x 8 x (x.length : Int) 0 with
  | none => rw [e] at h; cases h
  | some v =>
    rw [e, Option.bind_some] at h
    obtain rfl : v = true := Option.some.inj h
    exact (rise_asc x hn x.length 0 k (by omega) (by omega) e).1
theorem join_is (a b : List Int) (ha : a.length ≤ 1048576) (hb : b.length ≤ 1048576) : ∃ R : List Int × Bool, R.1.length ≤ 8000000 ∧ ∀ k, 20000000 ≤ k → spec_JoinMembers.f k a b = some R ∧ impl_JoinMembers.f k a b = some R := by
  obtain ⟨m, hm⟩ := rise_is a ha
  obtain ⟨n, hn⟩ := rise_is b hb
  by_cases c : (m && n) = true
  · have hl := puts_len b a
    refine ⟨(puts a b, true), by show (puts a b).length ≤ 8000000; omega, fun k hk => ?_⟩
    obtain ⟨k, rfl⟩ : ∃ m, k = m + 1 := ⟨k - 1, by omega⟩
    have cm : m = true := by cases m <;> simp_all
    have h1 : a.Pairwise (· < ·) := rise_pair a ha (k + 1) (by rw [(hm (k + 1) (by omega)).2, cm])
    rw [sjoin_f a b m n k (hm (k + 1) (by omega)).1 (hn (k + 1) (by omega)).1, ijoin_f a b m n k (hm (k + 1) (by omega)).2 (hn (k + 1) (by omega)).2, c, spec_JoinMembers.j0, impl_JoinMembers.j0, if_neg (by decide), if_neg (by decide), Option.bind_some]
    rw [if_pos (by simp only [List.length_nil]; omega), concat_is a b ha hb k (by omega), Option.bind_some, sort_is _ (by rw [List.length_append]; omega), Option.bind_some, comp_is _ (by rw [List.length_mergeSort, List.length_append]; omega) k (by rw [List.length_mergeSort, List.length_append]; omega), Option.bind_some]
    have t1 := sjoin_l0 b hb b.length 0 a (by omega) (by omega) (by omega) k (by omega)
    rw [show ((0 : Nat) : Int) = 0 from rfl, List.drop_zero] at t1
    rw [List.nil_append, t1]
    obtain ⟨a1, a2⟩ := puts_asc b a h1
    obtain ⟨b1, b2⟩ := comp_sort (a ++ b)
    have e := asc_ext _ _ a1 b1 (fun y => by rw [a2 y, b2 y, List.mem_append])
    rw [← e]
    exact ⟨rfl, rfl⟩
  · refine ⟨([], false), by simp, fun k hk => ?_⟩
    obtain ⟨k, rfl⟩ : ∃ m, k = m + 1 := ⟨k - 1, by omega⟩
    have c' : (m && n) = false := by simpa using c
    rw [sjoin_f a b m n k (hm (k + 1) (by omega)).1 (hn (k + 1) (by omega)).1, ijoin_f a b m n k (hm (k + 1) (by omega)).2 (hn (k + 1) (by omega)).2, c', Bool.not_false, sjoin_j, ijoin_j]
    exact ⟨rfl, rfl⟩

theorem FnExactJoinMembers : laws_FnExactJoinMembers.Stmt := by
  intro a b _ _
  refine ⟨20000100, ?_⟩
  unfold laws_FnExactJoinMembers.f
  by_cases c0 : (a.length : Int) > 1048576
  · rw [if_pos c0]
  · rw [if_neg c0]
    by_cases c1 : (b.length : Int) > 1048576
    · rw [if_pos c1]
    · rw [if_neg c1]
      obtain ⟨R, hR, e⟩ := join_is a b (by omega) (by omega)
      have TA : ∀ k, 1048700 ≤ k → laws_toIntS.f k a = some a := fun k hk => toIntS_is a (by omega) k (by omega)
      have TB : ∀ k, 1048700 ≤ k → laws_toIntS.f k b = some b := fun k hk => toIntS_is b (by omega) k (by omega)
      have ne : (R.2 != R.2) = false := by simp
      rw [TA _ (by omega), TB _ (by omega), Option.bind_some, Option.bind_some, (e _ (by omega)).1, Option.bind_some, Option.bind_some, Option.bind_some, (e _ (by omega)).2, Option.bind_some, eqIntS_same R.1 (by omega) _ (by omega), Option.bind_some, if_pos rfl, ne, laws_FnExactJoinMembers.j0, if_neg Bool.false_ne_true, TA _ (by omega), Option.bind_some, eqIntS_same a (by omega) _ (by omega), Option.bind_some, if_pos rfl, TB _ (by omega), Option.bind_some, eqIntS_same b (by omega) _ (by omega), Option.bind_some, if_pos rfl, markIntS_is a 1 _ (by omega) (by omega) (by omega) (by omega), Option.bind_some]
      dsimp only
      rw [markIntS_is b _ _ (by omega) (by omega) (by omega) (by omega), Option.bind_some]
      dsimp only
      rw [if_neg (by omega), eqIntS_same R.1 (by omega) _ (by omega), Option.bind_some, if_pos rfl, ne, laws_FnExactJoinMembers.j1, if_neg Bool.false_ne_true, markIntS_is R.1 1 _ (by omega) (by omega) (by omega) (by omega), Option.bind_some]
      dsimp only
      rw [heldIntS_is R.1.length 1 _ (by omega) (by omega) (by omega) (by omega), Option.bind_some, if_neg (by omega), if_pos rfl, TA _ (by omega), Option.bind_some, TB _ (by omega), Option.bind_some, (e _ (by omega)).2, Option.bind_some, eqIntS_same R.1 (by omega) _ (by omega), Option.bind_some, if_pos rfl, ne, laws_FnExactJoinMembers.j2, if_neg Bool.false_ne_true, heldIntS_is R.1.length 1 _ (by omega) (by omega) (by omega) (by omega), Option.bind_some, if_neg (by omega), if_pos rfl]

end Go.Proofs.Yteneeohaoplpbaa.Pure
