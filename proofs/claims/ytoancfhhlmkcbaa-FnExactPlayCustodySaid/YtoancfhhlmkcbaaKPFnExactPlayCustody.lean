/- FnExactPlayCustody: the law's pure statement: what the program's functions compute, in lists and numbers alone. -/
import Derived.Test.YtoancfhhlmkcbaaKD
import Derived.Test.YtoancfhhlmkcbaaKT
set_option linter.unusedVariables false
set_option linter.unusedSimpArgs false
namespace Go.Eng
open Go Go.RowKit Go.Proofs.YtoancfhhlmkcbaaW.PrintWords
/-! ### words for the pure laws -/
theorem w64_id {n : Int} (h0 : -9223372036854775808 ≤ n) (h1 : n ≤ 9223372036854775807) : w64 n = n := by
  show IntKind.i64.wrap n = n
  rw [IntKind.wrap_i64]
  omega
theorem grd_of {ρ : Type} {c : Bool} {x : Option ρ} (h : c = true) : grd c x = x := by rw [h]; rfl
theorem dropI {α : Type} (d : α) (xs : List α) (i : Int) (h0 : 0 ≤ i) (h1 : i < (xs.length : Int)) : xs.drop i.toNat = rdOf d xs i :: xs.drop (i + 1).toNat := by
  have h : i.toNat < xs.length := by omega
  rw [List.drop_eq_getElem_cons h, show (i + 1).toNat = i.toNat + 1 by omega]
  unfold rdOf
  rw [List.getD_eq_getElem?_getD, List.getElem?_eq_getElem h]
  rfl
theorem dropE {α : Type} (xs : List α) (i : Int) (h1 : (xs.length : Int) ≤ i) : xs.drop i.toNat = [] := List.drop_eq_nil_of_le (by omega)
theorem bne_int (a b : Nat) : ((a : Int) != (b : Int)) = !(decide (a = b)) := by
  by_cases h : a = b
  · subst h; simp
  · have : (a : Int) ≠ b := by omega
    simp [h, this]
theorem beq_self_int (a : Int) : (a == a) = true := by simp
theorem grd_self {ρ : Type} (a : Int) (x : Option ρ) : grd (a == a) x = x := grd_of (by simp)
theorem grd_dec {ρ : Type} {p : Prop} [Decidable p] (h : p) (x : Option ρ) : grd (decide p) x = x := grd_of (decide_eq_true h)
theorem bif_dec_t {α : Type} {p : Prop} [Decidable p] (h : p) (x y : α) : (bif decide p then x else y) = x := by rw [decide_eq_true h]; rfl
theorem bif_dec_f {α : Type} {p : Prop} [Decidable p] (h : ¬ p) (x y : α) : (bif decide p then x else y) = y := by rw [decide_eq_false h]; rfl
/-- A loop over an index. -/
theorem scan_run {ε σ ρ : Type} {step : (ε → Option ρ) → ε → Option ρ} (n : Int) (mk : Int → σ → ε) (R : Int → σ → Option ρ) (J : Int → σ → Prop)
    (h : ∀ rec i s, 0 ≤ i → i ≤ n → J i s → (i < n → ∀ s', J (i + 1) s' → rec (mk (i + 1) s') = R (i + 1) s') → step rec (mk i s) = R i s) :
    ∀ k i s, 0 ≤ i → i ≤ n → J i s → (n - i).toNat < k → iter step k (mk i s) = R i s
  | 0, _, _, _, _, _, hk => absurd hk (Nat.not_lt_zero _)
  | k + 1, i, s, h0, h1, hJ, hk => h _ i s h0 h1 hJ (fun hlt s' hJ' => scan_run n mk R J h k (i + 1) s' (by omega) (by omega) hJ' (by omega))
/-- A loop that asks p of each. -/
theorem all_loop {α ε ρ : Type} {step : (ε → Option ρ) → ε → Option ρ} (d : α) (xs : List α) (p : α → Bool) (K F : Option ρ) (mk : Int → ε)
    (h1 : ∀ rec i, 0 ≤ i → i < (xs.length : Int) → rdOf d xs i ∈ xs → step rec (mk i) = bif p (rdOf d xs i) then rec (mk (i + 1)) else F) (h2 : ∀ rec, step rec (mk (xs.length : Int)) = K) (k : Nat) (hk : xs.length < k) :
    iter step k (mk 0) = bif xs.all p then K else F := by
  refine scan_run (step := step) (xs.length : Int) (fun i (_ : Unit) => mk i) (fun i _ => bif (xs.drop i.toNat).all p then K else F) (fun _ _ => True) ?_ k 0 () (Int.le_refl _) (by omega) trivial (by omega)
  intro rec i _ h0 hle _ ih
  by_cases hlt : i < (xs.length : Int)
  · have hm : rdOf d xs i ∈ xs := by
      unfold rdOf
      have h : i.toNat < xs.length := by omega
      rw [List.getD_eq_getElem?_getD, List.getElem?_eq_getElem h]
      exact List.getElem_mem h
    rw [h1 rec i h0 hlt hm, dropI d xs i h0 hlt, List.all_cons, ih hlt () trivial]
    cases p (rdOf d xs i) <;> rfl
  · have : i = (xs.length : Int) := by omega
    subst this
    rw [h2 rec, dropE xs _ (Int.le_refl _)]
    rfl
/-! ### marks: rows written over, and what they are held against -/
def marksL {α : Type} (f : Int → α → α) (wt : α → Nat) : Int → List α → List α
  | _, [] => []
  | k, x :: r => f k x :: marksL f wt (k + wt x) r
def sumW {α : Type} (wt : α → Nat) : List α → Nat
  | [] => 0
  | x :: r => wt x + sumW wt r
theorem sumW_le {α : Type} (wt : α → Nat) (m : Nat) : ∀ (l : List α), (∀ x ∈ l, wt x ≤ m) → sumW wt l ≤ l.length * m
  | [], _ => by simp [sumW]
  | x :: r, h => by
    have h1 := h x (List.mem_cons_self ..)
    have h2 := sumW_le wt m r (fun y hy => h y (List.mem_cons_of_mem _ hy))
    unfold sumW
    rw [List.length_cons, Nat.succ_mul]
    omega
theorem rd_pre {α : Type} (d : α) (pre rest : List α) (x : α) : rdOf d (pre ++ x :: rest) (pre.length : Int) = x := by
  unfold rdOf
  rw [List.getD_eq_getElem?_getD, show ((pre.length : Int)).toNat = pre.length by omega, List.getElem?_append_right (Nat.le_refl _), Nat.sub_self]
  rfl
theorem set_pre {α : Type} (pre rest : List α) (x y : α) : setI (pre ++ x :: rest) (pre.length : Int) y = (pre ++ [y]) ++ rest := by
  unfold setI
  rw [show ((pre.length : Int)).toNat = pre.length by omega, List.set_append_right _ _ (Nat.le_refl _), Nat.sub_self, List.append_assoc]
  rfl
theorem mark_run {α : Type} {step : ((Int × Int × List α) → Option (Int × List α)) → (Int × Int × List α) → Option (Int × List α)} (d : α) (f : Int → α → α) (wt : α → Nat) (ok : α → Prop)
    (h1 : ∀ rec (k : Int) (i : Int) r, 0 < k → k + wt (rdOf d r i) ≤ 1000000000000000 → 0 ≤ i → i < (r.length : Int) → r.length ≤ 10000000 → ok (rdOf d r i) → step rec (k, i, r) = rec (k + wt (rdOf d r i), i + 1, setI r i (f k (rdOf d r i))))
    (h2 : ∀ rec (k i : Int) r, (r.length : Int) ≤ i → step rec (k, i, r) = some (k, r)) :
    ∀ (rest pre : List α) (k : Int) (n : Nat), 0 < k → k + sumW wt rest ≤ 1000000000000000 → pre.length + rest.length ≤ 10000000 → (∀ x ∈ rest, ok x) → rest.length < n →
      iter step n (k, (pre.length : Int), pre ++ rest) = some (k + sumW wt rest, pre ++ marksL f wt k rest)
  | [], pre, k, n, h0, hb, hl, hx, hn => by
    obtain ⟨m, rfl⟩ : ∃ m, n = m + 1 := ⟨n - 1, by simp at hn; omega⟩
    rw [iter, h2 _ _ _ _ (by simp)]
    simp [sumW, marksL]
  | x :: rest, pre, k, n, h0, hb, hl, hx, hn => by
    obtain ⟨m, rfl⟩ : ∃ m, n = m + 1 := ⟨n - 1, by simp at hn; omega⟩
    have hb2 : k + (wt x : Int) + (sumW wt rest : Int) ≤ 1000000000000000 := by
      have : ((sumW wt (x :: rest) : Nat) : Int) = wt x + sumW wt rest := by simp [sumW]
      omega
    rw [List.length_cons] at hl
    rw [iter, h1 _ _ _ _ h0 (by rw [rd_pre]; omega) (by omega) (by simp; omega) (by simp; omega) (by rw [rd_pre]; exact hx x (List.mem_cons_self ..)), rd_pre, set_pre]
    have ih := mark_run d f wt ok h1 h2 rest (pre ++ [f k x]) (k + wt x) m (by omega) hb2 (by simp; omega) (fun y hy => hx y (List.mem_cons_of_mem _ hy)) (by simp at hn; omega)
    rw [show (((pre ++ [f k x]).length : Nat) : Int) = (pre.length : Int) + 1 by simp] at ih
    rw [ih]
    have : k + ((sumW wt (x :: rest) : Nat) : Int) = k + wt x + sumW wt rest := by
      have : ((sumW wt (x :: rest) : Nat) : Int) = wt x + sumW wt rest := by simp [sumW]
      omega
    rw [this]
    simp [marksL]
theorem held_run {α : Type} {step : (List α × Int × Int → Option Int) → List α × Int × Int → Option Int} (d : α) (f : Int → α → α) (wt : α → Nat) (ok : α → Prop)
    (h1 : ∀ rec a (k i : Int) x, 0 < k → k + wt x ≤ 1000000000000000 → 0 ≤ i → i < (a.length : Int) → a.length ≤ 10000000 → ok x → rdOf d a i = f k x → step rec (a, k, i) = rec (a, k + wt x, i + 1))
    (h2 : ∀ rec a (k i : Int), (a.length : Int) ≤ i → step rec (a, k, i) = some k) :
    ∀ (rest pre : List α) (k : Int) (n : Nat), 0 < k → k + sumW wt rest ≤ 1000000000000000 → pre.length + rest.length ≤ 10000000 → (∀ x ∈ rest, ok x) → rest.length < n →
      iter step n (pre ++ marksL f wt k rest, k, (pre.length : Int)) = some (k + sumW wt rest)
  | [], pre, k, n, h0, hb, hl, hx, hn => by
    obtain ⟨m, rfl⟩ : ∃ m, n = m + 1 := ⟨n - 1, by simp at hn; omega⟩
    rw [iter, h2 _ _ _ _ (by simp [marksL])]
    simp [sumW]
  | x :: rest, pre, k, n, h0, hb, hl, hx, hn => by
    obtain ⟨m, rfl⟩ : ∃ m, n = m + 1 := ⟨n - 1, by simp at hn; omega⟩
    have hs : ((sumW wt (x :: rest) : Nat) : Int) = wt x + sumW wt rest := by simp [sumW]
    have hlen : ∀ (l : List α) (k : Int), (marksL f wt k l).length = l.length := by
      intro l
      induction l with
      | nil => exact fun _ => rfl
      | cons y q ih => exact fun k => by rw [marksL, List.length_cons, List.length_cons, ih]
    rw [List.length_cons] at hl
    unfold marksL
    rw [iter, h1 _ _ _ _ x h0 (by omega) (by omega) (by simp; omega) (by simp [hlen]; omega) (hx x (List.mem_cons_self ..)) (rd_pre ..)]
    have ih := held_run d f wt ok h1 h2 rest (pre ++ [f k x]) (k + wt x) m (by omega) (by omega) (by simp; omega) (fun y hy => hx y (List.mem_cons_of_mem _ hy)) (by simp at hn; omega)
    rw [show (((pre ++ [f k x]).length : Nat) : Int) = (pre.length : Int) + 1 by simp, List.append_assoc] at ih
    rw [show k + ((sumW wt (x :: rest) : Nat) : Int) = k + wt x + sumW wt rest by omega]
    exact ih
theorem marks_len {α : Type} (f : Int → α → α) (wt : α → Nat) : ∀ (l : List α) (k : Int), (marksL f wt k l).length = l.length
  | [], _ => rfl
  | x :: r, k => by rw [marksL, List.length_cons, List.length_cons, marks_len f wt r]
/-! the rows of a row that is written over, at one place -/
theorem rd_setI {α : Type} (d : α) (r : List α) (i : Int) (y : α) (h0 : 0 ≤ i) (h1 : i < (r.length : Int)) : rdOf d (setI r i y) i = y := by
  unfold rdOf setI
  rw [List.getD_eq_getElem?_getD, List.getElem?_set_self (by omega)]
  rfl
theorem setI_setI {α : Type} (r : List α) (i : Int) (y z : α) : setI (setI r i y) i z = setI r i z := by
  unfold setI
  rw [List.set_set]
theorem setI_length {α : Type} (r : List α) (i : Int) (y : α) : ((setI r i y).length : Int) = (r.length : Int) := by unfold setI; rw [List.length_set]
/-! ### lists made over, element by element -/
theorem put_take {α : Type} (r : List α) (i : Int) (v : α) (h0 : 0 ≤ i) (h1 : i < (r.length : Int)) : (setI r i v).take (i + 1).toNat = r.take i.toNat ++ [v] := by
  unfold setI
  have hi : i.toNat < r.length := by omega
  rw [show (i + 1).toNat = i.toNat + 1 by omega, List.take_succ_eq_append_getElem (by rw [List.length_set]; exact hi), List.take_set_of_le (Nat.le_refl _), List.getElem_set_self]
theorem to_loop {α ε : Type} {step : (ε → Option (List α)) → ε → Option (List α)} (d z : α) (l : List α) (mk : Int → List α → ε)
    (h1 : ∀ rec i r, 0 ≤ i → i < (l.length : Int) → r.length = l.length → rdOf d l i ∈ l → step rec (mk i r) = rec (mk (i + 1) (setI r i (rdOf d l i)))) (h2 : ∀ rec r, step rec (mk (l.length : Int) r) = some r) (k : Nat) (hk : l.length < k) :
    iter step k (mk 0 (List.replicate ((l.length : Int)).toNat z)) = some l := by
  refine (scan_run (step := step) (l.length : Int) (fun i (r : List α) => mk i r) (fun i r => some (r.take i.toNat ++ l.drop i.toNat)) (fun _ r => r.length = l.length) ?_ k 0 _ (Int.le_refl _) (by omega) (by simp) (by omega)).trans (by simp)
  intro rec i r h0 hle hJ ih
  by_cases hlt : i < (l.length : Int)
  · have hm : rdOf d l i ∈ l := by
      unfold rdOf
      have hh : i.toNat < l.length := by omega
      rw [List.getD_eq_getElem?_getD, List.getElem?_eq_getElem hh]
      exact List.getElem_mem hh
    have hs : (setI r i (rdOf d l i)).length = l.length := by unfold setI; rw [List.length_set]; exact hJ
    rw [h1 rec i r h0 hlt hJ hm, ih hlt _ hs, put_take _ _ _ h0 (by omega), dropI d l i h0 hlt, List.append_assoc]
    rfl
  · have : i = (l.length : Int) := by omega
    subst this
    rw [h2 rec r, dropE l _ (Int.le_refl _), List.append_nil, List.take_of_length_le (by omega)]
/-! ### custody: small lists of whole numbers -/
def hasI (l : List Int) (n : Int) : Bool := l.any (fun x => x == n)
theorem any_loop {α ε ρ : Type} {step : (ε → Option ρ) → ε → Option ρ} (d : α) (xs : List α) (p : α → Bool) (K F : Option ρ) (mk : Int → ε)
    (h1 : ∀ rec i, 0 ≤ i → i < (xs.length : Int) → step rec (mk i) = bif p (rdOf d xs i) then F else rec (mk (i + 1))) (h2 : ∀ rec, step rec (mk (xs.length : Int)) = K) (k : Nat) (hk : xs.length < k) :
    iter step k (mk 0) = bif xs.any p then F else K := by
  refine scan_run (step := step) (xs.length : Int) (fun i (_ : Unit) => mk i) (fun i _ => bif (xs.drop i.toNat).any p then F else K) (fun _ _ => True) ?_ k 0 () (Int.le_refl _) (by omega) trivial (by omega)
  intro rec i _ h0 hle _ ih
  by_cases hlt : i < (xs.length : Int)
  · rw [h1 rec i h0 hlt, dropI d xs i h0 hlt, List.any_cons, ih hlt () trivial]
    cases p (rdOf d xs i) <;> rfl
  · have : i = (xs.length : Int) := by omega
    subst this
    rw [h2 rec, dropE xs _ (Int.le_refl _)]
    rfl
theorem spec_has_eq (l : List Int) (n : Int) (h : l.length ≤ 1000000000) : spec_l1Has l n = some (hasI l n) := by
  refine lim_eq (l.length + 1) fun k hk => ?_
  unfold spec_l1Has.g
  refine (any_loop (step := spec_l1Has.s0 k) 0 l (fun x => x == n) (some false) (some true) (fun i => (n, l, (l.length : Int), i)) ?_ ?_ k (by omega)).trans ?_
  · intro rec i h0 h1
    unfold spec_l1Has.s0
    simp only []
    rw [bif_dec_t h1, grd_dec h0, grd_dec h1, w64_id (by omega) (by omega)]
  · intro rec
    unfold spec_l1Has.s0
    simp only []
    rw [bif_dec_f (Int.lt_irrefl _)]
  · unfold hasI
    cases l.any (fun x => x == n) <;> rfl
theorem hasI_iff (l : List Int) (n : Int) : hasI l n = true ↔ n ∈ l := by
  unfold hasI
  rw [List.any_eq_true]
  constructor
  · intro ⟨x, hx, e⟩
    have := beq_iff_eq.mp e
    subst this; exact hx
  · intro h; exact ⟨n, h, beq_self_eq_true n⟩
theorem sortI_perm (b : List Int) : (sortI b).Perm b := List.mergeSort_perm b _
theorem sortI_sorted (b : List Int) : (sortI b).Pairwise (fun x y => x ≤ y) :=
  (List.pairwise_mergeSort (le := fun a b => decide (a ≤ b)) (fun a b c h1 h2 => by simp at *; omega) (fun a b => by simp; omega) b).imp (fun h => by simpa using h)
theorem in_eq (n lo hi : Int) : spec_l1In n lo hi = some (decide (lo ≤ n) && decide (n ≤ hi)) := by
  unfold spec_l1In
  by_cases h : lo ≤ n
  · rw [bif_dec_t h, decide_eq_true h]; rfl
  · rw [bif_dec_f h, decide_eq_false h]; rfl
theorem within_eq (n lo hi : Int) : impl_within n lo hi = some (decide (lo ≤ n) && decide (n ≤ hi)) := by
  unfold impl_within
  cases decide (lo ≤ n) <;> rfl
def treeGo : Int → List Int → Bool
  | _, [] => true
  | i, x :: r => (bif i == 0 then x == -1 else decide (0 ≤ x) && decide (x < i)) && treeGo (i + 1) r
def treeB (up : List Int) : Bool := treeGo 0 up && (decide (1 ≤ up.length) && decide (up.length ≤ 8))
theorem len_18 (l : List Int) : (decide ((1 : Int) ≤ (l.length : Int)) && decide ((l.length : Int) ≤ 8)) = (decide (1 ≤ l.length) && decide (l.length ≤ 8)) := by
  congr 1 <;> rw [decide_eq_decide] <;> omega
theorem spec_tree_eq (up : List Int) (h : up.length ≤ 1000000000) : spec_l16Tree up = some (treeB up) := by
  refine lim_eq (up.length + 1) fun k hk => ?_
  unfold spec_l16Tree.g
  refine (scan_run (step := spec_l16Tree.s0 k) (up.length : Int) (fun i (_ : Unit) => (up, up, (up.length : Int), i)) (fun i _ => some (treeGo i (up.drop i.toNat) && (decide (1 ≤ up.length) && decide (up.length ≤ 8)))) (fun _ _ => True) ?_ k 0 () (Int.le_refl _) (by omega) trivial (by omega)).trans ?_
  · intro rec i _ h0 h1 _ ih
    unfold spec_l16Tree.s0
    simp only []
    by_cases hlt : i < (up.length : Int)
    · rw [bif_dec_t hlt, grd_dec h0, grd_dec hlt, w64_id (n := i + 1) (by omega) (by omega), dropI 0 up i h0 hlt, treeGo, ih hlt () trivial]
      generalize rdOf 0 up i = x
      cases hi : i == 0 with
      | true =>
        have hi := beq_iff_eq.mp hi
        subst hi
        cases hx : x == -1 with
        | false => rfl
        | true =>
          have hx := beq_iff_eq.mp hx
          subst hx
          rfl
      | false =>
        have hi' : i ≠ 0 := fun e => by rw [e] at hi; cases hi
        cases hx : x == -1 with
        | true =>
          have hx := beq_iff_eq.mp hx
          subst hx
          rfl
        | false =>
          have hx' : x ≠ -1 := fun e => by rw [e] at hx; cases hx
          simp only [beq_self_eq_true, Bool.not_true, cond_false]
          by_cases h2 : x < -1
          · rw [bif_dec_t h2, decide_eq_false (show ¬ 0 ≤ x by omega)]; rfl
          · rw [bif_dec_f h2, decide_eq_true (show 0 ≤ x by omega)]
            by_cases h3 : x ≥ i
            · rw [bif_dec_t h3, decide_eq_false (show ¬ x < i by omega)]; rfl
            · rw [bif_dec_f h3, decide_eq_true (show x < i by omega)]; rfl
    · rw [bif_dec_f hlt, dropE up i (by omega), in_eq, Option.bind_some, len_18]
      rfl
  · rfl
theorem impl_tree_eq (up : List Int) : impl_isTree up = some (treeB up) := by
  refine lim_eq (up.length + 1) fun k hk => ?_
  unfold impl_isTree.g treeB
  rw [within_eq, Option.bind_some, len_18]
  cases hl : decide (1 ≤ up.length) && decide (up.length ≤ 8) with
  | false => rw [Bool.and_false]; rfl
  | true =>
    have hl' := Bool.and_eq_true_iff.mp hl
    have hl1 := of_decide_eq_true hl'.1
    have hl2 := of_decide_eq_true hl'.2
    simp only [Bool.not_true, cond_false, Bool.and_true]
    rw [grd_dec (by omega), bne]
    have hd := dropI 0 up 0 (Int.le_refl _) (by omega)
    have hd : up = rdOf 0 up 0 :: up.drop 1 := hd
    cases h0 : rdOf 0 up 0 == -1 with
    | false =>
      rw [hd, treeGo]
      simp only [h0]
      rfl
    | true =>
      simp only [Bool.not_true, cond_false]
      refine (scan_run (step := impl_isTree.s0 k) (up.length : Int) (fun i (_ : Unit) => (up, (up.length : Int), i)) (fun i _ => some (treeGo i (up.drop i.toNat))) (fun _ _ => True) ?_ k 0 () (Int.le_refl _) (by omega) trivial (by omega)).trans ?_
      · intro rec i _ h0' h1 _ ih
        unfold impl_isTree.s0
        simp only []
        by_cases hlt : i < (up.length : Int)
        · rw [bif_dec_t hlt, grd_dec h0', grd_dec hlt, w64_id (n := i + 1) (by omega) (by omega), dropI 0 up i h0' hlt, treeGo, ih hlt () trivial]
          by_cases hi : i > 0
          · rw [bif_dec_t hi, within_eq, Option.bind_some, w64_id (n := i - 1) (by omega) (by omega), show (i == 0) = false from Bool.eq_false_iff.mpr (fun e => by have := beq_iff_eq.mp e; omega), cond_false]
            rw [show decide (rdOf 0 up i ≤ i - 1) = decide (rdOf 0 up i < i) from decide_eq_decide.mpr (by omega)]
            cases decide (0 ≤ rdOf 0 up i) && decide (rdOf 0 up i < i) <;> rfl
          · have hi : i = 0 := by omega
            subst hi
            rw [bif_dec_f (show ¬ (0 : Int) > 0 by omega), h0]
            rfl
        · rw [bif_dec_f hlt, dropE up i (by omega)]
          rfl
      · rfl
def idxGo {α : Type} (p : α → Bool) : Int → List α → Int
  | _, [] => -1
  | i, x :: r => bif p x then i else idxGo p (i + 1) r
theorem idxGo_any {α : Type} (p : α → Bool) : ∀ (l : List α) (i : Int), 0 ≤ i → decide (idxGo p i l ≥ 0) = l.any p
  | [], _, _ => rfl
  | x :: r, i, h => by
    rw [idxGo, List.any_cons]
    cases p x with
    | true => rw [cond_true, decide_eq_true (show i ≥ 0 from h)]; rfl
    | false => rw [cond_false, idxGo_any p r (i + 1) (by omega)]; rfl
theorem idx_loop {α ε : Type} {step : (ε → Option Int) → ε → Option Int} (d : α) (xs : List α) (p : α → Bool) (mk : Int → ε)
    (h1 : ∀ rec i, 0 ≤ i → i < (xs.length : Int) → step rec (mk i) = bif p (rdOf d xs i) then some i else rec (mk (i + 1))) (h2 : ∀ rec, step rec (mk (xs.length : Int)) = some (-1)) (k : Nat) (hk : xs.length < k) :
    iter step k (mk 0) = some (idxGo p 0 xs) := by
  refine (scan_run (step := step) (xs.length : Int) (fun i (_ : Unit) => mk i) (fun i _ => some (idxGo p i (xs.drop i.toNat))) (fun _ _ => True) ?_ k 0 () (Int.le_refl _) (by omega) trivial (by omega)).trans rfl
  intro rec i _ h0 hle _ ih
  by_cases hlt : i < (xs.length : Int)
  · rw [h1 rec i h0 hlt, dropI d xs i h0 hlt, idxGo, ih hlt () trivial]
    cases p (rdOf d xs i) <;> rfl
  · have : i = (xs.length : Int) := by omega
    subst this
    rw [h2 rec, dropE xs _ (Int.le_refl _)]
    rfl
theorem contains_int_eq (l : List Int) (n : Int) (h : l.length ≤ 1000000000) : slices_Contains_int l n = some (hasI l n) := by
  have e : slices_Index_int l n = some (idxGo (fun x => n == x) 0 l) := by
    refine lim_eq (l.length + 1) fun k hk => ?_
    unfold slices_Index_int.g
    refine idx_loop (step := slices_Index_int.s0 k) 0 l (fun x => n == x) (fun i => (l, n, (l.length : Int), i)) ?_ ?_ k (by omega)
    · intro rec i h0 h1
      unfold slices_Index_int.s0
      simp only []
      rw [bif_dec_t h1, grd_dec h0, grd_dec h1, w64_id (by omega) (by omega)]
    · intro rec
      unfold slices_Index_int.s0
      simp only []
      rw [bif_dec_f (Int.lt_irrefl _)]
  unfold slices_Contains_int
  rw [e, Option.bind_some, idxGo_any _ _ _ (Int.le_refl _)]
  unfold hasI
  congr 2
  funext x
  rw [Bool.eq_iff_iff, beq_iff_eq, beq_iff_eq]
  exact eq_comm
def childGo (node : Int) : Int → List Int → List Int
  | _, [] => []
  | i, x :: r => bif decide (0 < i) && (x == node) then i :: childGo node (i + 1) r else childGo node (i + 1) r
theorem childGo_len (node : Int) : ∀ (l : List Int) (i : Int), (childGo node i l).length ≤ l.length
  | [], _ => Nat.le_refl _
  | x :: r, i => by
    have := childGo_len node r (i + 1)
    rw [childGo]
    cases decide (0 < i) && (x == node) <;> simp <;> omega
theorem spec_children_eq (up : List Int) (node : Int) (h : up.length ≤ 1000000000) : spec_l16Children up node = some (childGo node 0 up) := by
  refine lim_eq (up.length + 1) fun k hk => ?_
  unfold spec_l16Children.g
  refine (scan_run (step := spec_l16Children.s0 k) (up.length : Int) (fun i (r : List Int) => (node, up, (up.length : Int), i, r)) (fun i r => some (r ++ childGo node i (up.drop i.toNat))) (fun i r => (r.length : Int) ≤ i) ?_ k 0 [] (Int.le_refl _) (by omega) (by simp) (by omega)).trans ?_
  · intro rec i r h0 h1 hJ ih
    unfold spec_l16Children.s0
    simp only []
    by_cases hlt : i < (up.length : Int)
    · rw [bif_dec_t hlt, grd_dec h0, grd_dec hlt, w64_id (n := i + 1) (by omega) (by omega), grd_dec (show (r.length + 1) * 8 ≤ 140737488355328 by omega), dropI 0 up i h0 hlt, childGo]
      rw [ih hlt (r ++ [i]) (by simp; omega), ih hlt r (by omega)]
      by_cases hi : i > 0
      · rw [bif_dec_t hi, decide_eq_true (show 0 < i from hi)]
        cases rdOf 0 up i == node with
        | true => simp only [cond_true, Bool.and_self, List.append_assoc, List.singleton_append]
        | false => rfl
      · rw [bif_dec_f hi, decide_eq_false (show ¬ 0 < i from hi)]
        rfl
    · rw [bif_dec_f hlt, dropE up i (by omega), childGo, List.append_nil]
  · rfl
theorem mem_childGo (node : Int) : ∀ (l : List Int) (i x : Int), 0 ≤ i → (x ∈ childGo node i l ↔ i ≤ x ∧ 0 < x ∧ x < i + l.length ∧ l.getD (x - i).toNat 0 = node)
  | [], i, x, _ => by simp [childGo]; omega
  | y :: r, i, x, h => by
    have ih := mem_childGo node r (i + 1) x (by omega)
    have e : x ∈ childGo node i (y :: r) ↔ (x = i ∧ 0 < i ∧ y = node) ∨ x ∈ childGo node (i + 1) r := by
      rw [childGo]
      by_cases hc : 0 < i ∧ y = node
      · rw [decide_eq_true hc.1, show (y == node) = true from beq_iff_eq.mpr hc.2]
        simp [hc]
      · have : (decide (0 < i) && (y == node)) = false := by simp; intro a b; exact hc ⟨a, b⟩
        rw [this, cond_false]
        constructor
        · exact Or.inr
        · rintro (⟨_, a, b⟩ | hh)
          · exact absurd ⟨a, b⟩ hc
          · exact hh
    rw [e, ih]
    by_cases hx : x = i
    · subst hx
      rw [show (x - x).toNat = 0 by omega]
      simp
      constructor
      · rintro (⟨a, b⟩ | ⟨a, _⟩)
        · exact ⟨a, by omega, b⟩
        · omega
      · rintro ⟨a, _, b⟩; exact Or.inl ⟨a, b⟩
    · by_cases hl : i ≤ x
      · rw [show (x - i).toNat = (x - (i + 1)).toNat + 1 by omega]
        simp only [List.length_cons, List.getD_cons_succ]
        constructor
        · rintro (⟨a, _⟩ | ⟨a, b, c, d⟩)
          · exact absurd a hx
          · exact ⟨hl, b, by omega, d⟩
        · rintro ⟨a, b, c, d⟩; exact Or.inr ⟨by omega, b, by omega, d⟩
      · constructor
        · rintro (⟨a, _⟩ | ⟨a, _⟩) <;> omega
        · rintro ⟨a, _⟩; omega
theorem rd_in {α : Type} (d : α) (l : List α) (i : Int) (h0 : 0 ≤ i) (h1 : i < (l.length : Int)) : rdOf d l i ∈ l := by
  unfold rdOf
  have hh : i.toNat < l.length := by omega
  rw [List.getD_eq_getElem?_getD, List.getElem?_eq_getElem hh]
  exact List.getElem_mem hh
abbrev KEEP := List Int × List (Int × Int) × List Int
abbrev keep0 : KEEP := ([], [], [])
def lessB (p h : Int × Int) : Bool := decide (p.1 < h.1) || (p.1 == h.1 && decide (p.2 < h.2))
theorem spec_less_eq (p h : Int × Int) : spec_l16Less p.1 p.2 h.1 h.2 = some (lessB p h) := by
  unfold spec_l16Less lessB
  by_cases h1 : p.1 < h.1
  · rw [bif_dec_t h1, decide_eq_true h1]; rfl
  · rw [bif_dec_f h1, decide_eq_false h1]
    cases p.1 == h.1 <;> rfl
abbrev SLIP := Int × Int × Int × Int
theorem tree_up : ∀ (up : List Int) (i n : Int), treeGo i up = true → 0 ≤ i → i ≤ n → 0 < n → n < i + up.length → 0 ≤ up.getD (n - i).toNat 0 ∧ up.getD (n - i).toNat 0 < n
  | [], i, n, _, _, h1, _, h2 => by simp at h2; omega
  | x :: r, i, n, h, h0, h1, hn, h2 => by
    rw [treeGo, Bool.and_eq_true] at h
    by_cases e : n = i
    · subst e
      have hb : (n == 0) = false := Bool.eq_false_iff.mpr (fun e => by have := beq_iff_eq.mp e; omega)
      have h3 := h.1
      rw [hb, cond_false, Bool.and_eq_true, decide_eq_true_eq, decide_eq_true_eq] at h3
      rw [show (n - n).toNat = 0 by omega]
      exact h3
    · rw [show (n - i).toNat = (n - (i + 1)).toNat + 1 by omega, List.getD_cons_succ]
      exact tree_up r (i + 1) n h.2 (by omega) (by omega) hn (by simp at h2; omega)
theorem tree_rd {up : List Int} (h : treeB up = true) (n : Int) (h0 : 0 < n) (h1 : n < (up.length : Int)) : 0 ≤ rdOf 0 up n ∧ rdOf 0 up n < n := by
  have := tree_up up 0 n (Bool.and_eq_true_iff.mp h).1 (Int.le_refl _) (by omega) h0 (by omega)
  rw [show n - 0 = n by omega] at this
  exact this
theorem tree_len {up : List Int} (h : treeB up = true) : 1 ≤ up.length ∧ up.length ≤ 8 := by
  have := (Bool.and_eq_true_iff.mp h).2
  simpa using this
theorem bne_of {a b : Int} : (a != b) = !(a == b) := rfl
theorem toIntS_eq (l : List Int) (h : l.length ≤ 10000000) : laws_toIntS l = some l := by
  refine lim_eq (l.length + 1) fun k hk => ?_
  unfold laws_toIntS.g
  rw [grd_self, grd_dec (by omega), grd_dec (by omega)]
  refine to_loop (step := laws_toIntS.s0 k) 0 0 l (fun i r => (l, i, r)) ?_ ?_ k (by omega)
  · intro rec i r h0 h1 hr _
    unfold laws_toIntS.s0
    simp only []
    rw [bif_dec_t h1, grd_dec h0, grd_dec h1, grd_dec h0, grd_dec (by omega), w64_id (by omega) (by omega)]
  · intro rec r
    unfold laws_toIntS.s0
    simp only []
    rw [bif_dec_f (Int.lt_irrefl _)]
theorem all_true {α : Type} (l : List α) : l.all (fun _ => true) = true := List.all_eq_true.mpr (fun _ _ => rfl)
theorem eqIntS_self (l : List Int) (h : l.length ≤ 10000000) : laws_eqIntS l l = some true := by
  refine lim_eq (l.length + 1) fun k hk => ?_
  unfold laws_eqIntS.g
  rw [bne_int, decide_eq_true rfl]
  refine (all_loop (step := laws_eqIntS.s0 k) 0 l (fun _ => true) (some true) (some false) (fun i => (l, l, i)) ?_ ?_ k (by omega)).trans (by rw [all_true]; rfl)
  · intro rec i h0 h1 _
    unfold laws_eqIntS.s0
    simp only [bif_dec_t h1, grd_dec h0, grd_dec h1, bne_self_eq_false, cond_false, cond_true]
    rw [w64_id (by omega) (by omega)]
  · intro rec
    unfold laws_eqIntS.s0
    simp only []
    rw [bif_dec_f (Int.lt_irrefl _)]
theorem eqHoldS_self (l : List (Int × Int)) (h : l.length ≤ 10000000) : laws_eqHoldS l l = some true := by
  refine lim_eq (l.length + 1) fun k hk => ?_
  unfold laws_eqHoldS.g
  rw [bne_int, decide_eq_true rfl]
  refine (all_loop (step := laws_eqHoldS.s0 k) (0, 0) l (fun _ => true) (some true) (some false) (fun i => (l, l, i)) ?_ ?_ k (by omega)).trans (by rw [all_true]; rfl)
  · intro rec i h0 h1 _
    unfold laws_eqHoldS.s0 laws_eqHold
    simp only [bif_dec_t h1, grd_dec h0, grd_dec h1, bne_self_eq_false, cond_false, cond_true, Option.bind_some, Bool.not_true]
    rw [w64_id (by omega) (by omega)]
  · intro rec
    unfold laws_eqHoldS.s0
    simp only []
    rw [bif_dec_f (Int.lt_irrefl _)]
theorem eqSlipS_self (l : List SLIP) (h : l.length ≤ 10000000) : laws_eqSlipS l l = some true := by
  refine lim_eq (l.length + 1) fun k hk => ?_
  unfold laws_eqSlipS.g
  rw [bne_int, decide_eq_true rfl]
  refine (all_loop (step := laws_eqSlipS.s0 k) ((0, 0, 0, 0) : SLIP) l (fun _ => true) (some true) (some false) (fun i => (l, l, i)) ?_ ?_ k (by omega)).trans (by rw [all_true]; rfl)
  · intro rec i h0 h1 _
    unfold laws_eqSlipS.s0 laws_eqSlip
    simp only [bif_dec_t h1, grd_dec h0, grd_dec h1, bne_self_eq_false, cond_false, cond_true, Option.bind_some, Bool.not_true]
    rw [w64_id (by omega) (by omega)]
  · intro rec
    unfold laws_eqSlipS.s0
    simp only []
    rw [bif_dec_f (Int.lt_irrefl _)]
theorem eqKeeperS_self (l : List KEEP) (h : l.length ≤ 10000000) (hx : ∀ x ∈ l, x.1.length ≤ 10000000 ∧ x.2.1.length ≤ 10000000 ∧ x.2.2.length ≤ 10000000) : laws_eqKeeperS l l = some true := by
  refine lim_eq (l.length + 1) fun k hk => ?_
  unfold laws_eqKeeperS.g
  rw [bne_int, decide_eq_true rfl]
  refine (all_loop (step := laws_eqKeeperS.s0 k) keep0 l (fun _ => true) (some true) (some false) (fun i => (l, l, i)) ?_ ?_ k (by omega)).trans (by rw [all_true]; rfl)
  · intro rec i h0 h1 hm
    have := hx _ hm
    have e : laws_eqKeeper (rdOf keep0 l i).1 (rdOf keep0 l i).2.1 (rdOf keep0 l i).2.2 (rdOf keep0 l i).1 (rdOf keep0 l i).2.1 (rdOf keep0 l i).2.2 = some true := by
      unfold laws_eqKeeper
      rw [eqIntS_self _ this.1, eqHoldS_self _ this.2.1, eqIntS_self _ this.2.2]
      rfl
    unfold laws_eqKeeperS.s0
    simp only []
    rw [bif_dec_t h1, grd_dec h0, grd_dec h1, grd_dec h0, grd_dec h1]
    change (laws_eqKeeper (rdOf keep0 l i).1 (rdOf keep0 l i).2.1 (rdOf keep0 l i).2.2 (rdOf keep0 l i).1 (rdOf keep0 l i).2.1 (rdOf keep0 l i).2.2).bind _ = _
    rw [e, w64_id (by omega) (by omega)]
    rfl
  · intro rec
    unfold laws_eqKeeperS.s0
    simp only []
    rw [bif_dec_f (Int.lt_irrefl _)]
/-! ### put to its place -/
theorem stop_loop {α ε ρ : Type} {step : (ε → Option ρ) → ε → Option ρ} (d : α) (xs : List α) (p : α → Bool) (mk : Int → ε) (K : Int → Option ρ)
    (h1 : ∀ rec i, 0 ≤ i → i < (xs.length : Int) → step rec (mk i) = bif p (rdOf d xs i) then rec (mk (i + 1)) else K i) (h2 : ∀ rec, step rec (mk (xs.length : Int)) = K (xs.length : Int)) (k : Nat) (hk : xs.length < k) :
    iter step k (mk 0) = K ((xs.takeWhile p).length : Int) := by
  refine (scan_run (step := step) (xs.length : Int) (fun i (_ : Unit) => mk i) (fun i _ => K (i + ((xs.drop i.toNat).takeWhile p).length)) (fun _ _ => True) ?_ k 0 () (Int.le_refl _) (by omega) trivial (by omega)).trans (by simp)
  intro rec i _ h0 hle _ ih
  by_cases hlt : i < (xs.length : Int)
  · rw [h1 rec i h0 hlt, dropI d xs i h0 hlt, List.takeWhile_cons, ih hlt () trivial]
    cases hp : p (rdOf d xs i) with
    | true =>
      simp only [cond_true, if_true, List.length_cons]
      congr 1
      omega
    | false => simp
  · have : i = (xs.length : Int) := by omega
    subst this
    rw [h2 rec, dropE xs _ (Int.le_refl _)]
    simp
theorem tw_take {α : Type} (p : α → Bool) : ∀ (l : List α), l.take (l.takeWhile p).length = l.takeWhile p ∧ l.drop (l.takeWhile p).length = l.dropWhile p
  | [] => ⟨rfl, rfl⟩
  | x :: r => by
    rw [List.takeWhile_cons, List.dropWhile_cons]
    cases hp : p x with
    | true =>
      obtain ⟨h1, h2⟩ := tw_take p r
      simp [h1, h2]
    | false => simp
theorem tw_len {α : Type} (p : α → Bool) (l : List α) : (l.takeWhile p).length ≤ l.length := (List.takeWhile_prefix p).length_le
def insB {α : Type} (p : α → Bool) (x : α) (l : List α) : List α := l.takeWhile p ++ x :: l.dropWhile p
theorem insB_len {α : Type} (p : α → Bool) (x : α) (l : List α) : (insB p x l).length = l.length + 1 := by
  unfold insB
  rw [List.length_append, List.length_cons, ← (tw_take p l).2, List.length_drop]
  have := tw_len p l
  omega
theorem insB_perm {α : Type} (p : α → Bool) (x : α) (l : List α) : (insB p x l).Perm (l ++ [x]) := by
  unfold insB
  have h := List.takeWhile_append_dropWhile (p := p) (l := l)
  refine (List.perm_middle).trans ?_
  rw [h]
  exact (List.perm_append_singleton x l).symm
theorem cuts_ins {α : Type} (p : α → Bool) (x : α) (l : List α) : ((cut l 0 ((l.takeWhile p).length : Int)) ++ [x]) ++ (cut l ((l.takeWhile p).length : Int) (l.length : Int)) = insB p x l := by
  unfold cut insB
  simp only [Int.toNat_zero, List.drop_zero, Int.toNat_natCast, List.take_length]
  rw [(tw_take p l).1, (tw_take p l).2]
  simp
theorem cut_len0 {α : Type} (l : List α) (i : Int) (h0 : 0 ≤ i) (h1 : i ≤ (l.length : Int)) : (cut l 0 i).length = i.toNat ∧ (cut l i (l.length : Int)).length = l.length - i.toNat := by
  unfold cut
  simp only [Int.toNat_zero, List.drop_zero, Int.toNat_natCast, List.take_length, List.length_take, List.length_drop]
  exact ⟨Nat.min_eq_left (by omega), trivial⟩
theorem l7Put_eq (l : List Int) (n : Int) (h : l.length ≤ 1000000000) (hn : hasI l n = false) : spec_l7Put n l = some (insB (fun x => decide (x < n)) n l) := by
  have hno : n ∉ l := fun hm => by rw [(hasI_iff l n).2 hm] at hn; cases hn
  refine lim_eq (l.length + 1) fun k hk => ?_
  unfold spec_l7Put.g
  have hK : ∀ i : Int, 0 ≤ i → i ≤ (l.length : Int) → ∀ T : Option (List Int), (grd (decide (0 ≤ i)) <| grd (decide (i ≤ (l.length : Int))) <| grd (decide ((cut l 0 i).length * 8 ≤ 140737488355328)) <| grd (decide (((cut l 0 i).length + 1) * 8 ≤ 140737488355328)) <| grd (decide (0 ≤ i)) <| grd (decide (i ≤ (l.length : Int))) <| grd (decide ((((cut l 0 i) ++ [n]).length + (cut l i (l.length : Int)).length) * 8 ≤ 140737488355328)) <| T) = T := fun i h0 h1 T => by
    obtain ⟨c1, c2⟩ := cut_len0 l i h0 h1
    rw [grd_dec h0, grd_dec h1, grd_dec (by omega), grd_dec (by omega), grd_dec h0, grd_dec h1, grd_dec (by rw [List.length_append, List.length_singleton]; omega)]
  refine (stop_loop (step := spec_l7Put.s0 k) 0 l (fun x => decide (x < n)) (fun i => (n, i, l)) (fun i => some (((cut l 0 i) ++ [n]) ++ (cut l i (l.length : Int)))) ?_ ?_ k (by omega)).trans ?_
  · intro rec i h0 h1
    unfold spec_l7Put.s0
    simp only []
    rw [bif_dec_t h1, grd_dec h0, grd_dec h1, w64_id (n := i + 1) (by omega) (by omega)]
    cases hd : decide (rdOf 0 l i < n) with
    | true => rfl
    | false =>
      simp only [cond_false]
      have hne : (rdOf 0 l i == n) = false := by
        rw [beq_eq_false_iff_ne]
        exact fun e => hno (e ▸ rd_in 0 l i h0 h1)
      rw [bif_dec_t h1, grd_dec h0, grd_dec h1, hne, cond_false, hK i h0 (by omega)]
  · intro rec
    unfold spec_l7Put.s0
    simp only []
    rw [bif_dec_f (Int.lt_irrefl _), bif_dec_f (Int.lt_irrefl _), hK _ (by omega) (Int.le_refl _)]
  · show some _ = _
    rw [cuts_ins]
/-! ### in order -/
theorem insB_pair {α : Type} (R : α → α → Prop) (p : α → Bool) (x : α) (l : List α) (hl : l.Pairwise R) (hp : ∀ y ∈ l, p y = true → R y x) (hq : ∀ y ∈ l, p y = false → R x y) (ht : ∀ a b, R a b → p b = true → p a = true) : (insB p x l).Pairwise R := by
  have hsplit := List.takeWhile_append_dropWhile (p := p) (l := l)
  unfold insB
  rw [← hsplit, List.pairwise_append] at hl
  obtain ⟨h1, h2, h3⟩ := hl
  have hmt : ∀ y ∈ l.takeWhile p, y ∈ l ∧ p y = true := fun y hy => ⟨(List.takeWhile_prefix p).subset hy, List.all_eq_true.mp (List.all_takeWhile (p := p) (l := l)) y hy⟩
  have hmd : ∀ y ∈ l.dropWhile p, y ∈ l := fun y hy => (List.dropWhile_suffix p).subset hy
  have hdf : ∀ y ∈ l.dropWhile p, p y = false := by
    cases hd : l.dropWhile p with
    | nil => exact fun y hy => by cases hy
    | cons z r =>
      have hz : p z = false := by
        have := List.head_dropWhile_not p (l := l) (by rw [hd]; exact List.cons_ne_nil z r)
        simp only [hd, List.head_cons] at this
        exact this
      intro y hy
      rcases List.mem_cons.mp hy with rfl | hy
      · exact hz
      · rw [hd] at h2
        have hzy := (List.pairwise_cons.mp h2).1 y hy
        cases hpy : p y with
        | false => rfl
        | true => rw [ht z y hzy hpy] at hz; cases hz
  rw [List.pairwise_append]
  refine ⟨h1, List.pairwise_cons.mpr ⟨fun y hy => hq y (hmd y hy) (hdf y hy), h2⟩, fun a ha b hb => ?_⟩
  rcases List.mem_cons.mp hb with rfl | hb
  · exact hp a (hmt a ha).1 (hmt a ha).2
  · exact h3 a ha b hb
theorem seen_pair (l : List Int) (n : Int) (hl : l.Pairwise (· < ·)) (hn : n ∉ l) : (insB (fun x => decide (x < n)) n l).Pairwise (· < ·) :=
  insB_pair _ _ _ _ hl (fun y _ h => by simpa using h) (fun y hy h => by
    have : ¬ y < n := by simpa using h
    have : y ≠ n := fun e => hn (e ▸ hy)
    omega) (fun a b h1 h2 => by simp only [decide_eq_true_eq] at *; omega)
theorem seen_sort (l : List Int) (n : Int) (hl : l.Pairwise (· < ·)) (hn : n ∉ l) : sortI (l ++ [n]) = insB (fun x => decide (x < n)) n l :=
  List.Perm.eq_of_pairwise (fun x y _ _ h1 h2 => by omega) (sortI_sorted _) ((seen_pair l n hl hn).imp (fun h => Int.le_of_lt h)) ((sortI_perm _).trans (insB_perm _ n l).symm)
theorem lessB_iff (a b : Int × Int) : lessB a b = true ↔ a.1 < b.1 ∨ (a.1 = b.1 ∧ a.2 < b.2) := by
  unfold lessB
  rw [Bool.or_eq_true, Bool.and_eq_true, decide_eq_true_eq, decide_eq_true_eq, beq_iff_eq]
theorem leH_iff (a b : Int × Int) : leH a b = true ↔ a.1 < b.1 ∨ (a.1 = b.1 ∧ a.2 ≤ b.2) := by
  unfold leH
  rw [Bool.or_eq_true, Bool.and_eq_true, decide_eq_true_eq, decide_eq_true_eq, beq_iff_eq]
def ordH (a b : Int × Int) : Prop := lessB a b = true
theorem hold_pair (l : List (Int × Int)) (h : Int × Int) (hl : l.Pairwise ordH) (hn : h ∉ l) : (insB (fun x => lessB x h) h l).Pairwise ordH :=
  insB_pair _ _ _ _ hl (fun y _ h => h) (fun y hy hh => by
    have h1 : ¬ (y.1 < h.1 ∨ (y.1 = h.1 ∧ y.2 < h.2)) := by rw [← lessB_iff, hh]; decide
    have h2 : ¬ (y.1 = h.1 ∧ y.2 = h.2) := fun e => hn (by rw [← show y = h from Prod.ext e.1 e.2]; exact hy)
    show lessB h y = true
    rw [lessB_iff]
    omega) (fun a b h1 h2 => by
    have h1 : lessB a b = true := h1
    rw [lessB_iff] at *
    omega)
theorem hold_sort (l r : List (Int × Int)) (hr : r.Pairwise ordH) (hp : r.Perm l) : l.mergeSort leH = r := by
  refine List.Perm.eq_of_pairwise (le := fun a b => leH a b = true) (fun x y _ _ h1 h2 => ?_) (List.pairwise_mergeSort (le := leH) (fun a b c h1 h2 => ?_) (fun a b => ?_) l) (hr.imp (fun h => ?_)) ((List.mergeSort_perm l _).trans hp.symm)
  · rw [leH_iff] at h1 h2
    exact Prod.ext (by omega) (by omega)
  · rw [leH_iff] at *
    omega
  · rw [Bool.or_eq_true, leH_iff, leH_iff]
    omega
  · have h : lessB _ _ = true := h
    rw [lessB_iff] at h
    rw [leH_iff]
    omega
/-- one hold after the other -/
def insAll (id : Int) : List Int → List (Int × Int) → List (Int × Int)
  | [], l => l
  | c :: r, l => insAll id r (insB (fun x => lessB x (id, c)) (id, c) l)
theorem insAll_perm (id : Int) : ∀ (r : List Int) (l : List (Int × Int)), (insAll id r l).Perm (l ++ r.map (fun c => (id, c)))
  | [], l => by simp [insAll]
  | c :: r, l => by
    rw [insAll, List.map_cons]
    refine (insAll_perm id r _).trans ?_
    refine ((insB_perm _ (id, c) l).append_right _).trans ?_
    rw [List.append_assoc]
    exact List.Perm.refl _
theorem insAll_len (id : Int) (r : List Int) (l : List (Int × Int)) : (insAll id r l).length = l.length + r.length := by
  rw [(insAll_perm id r l).length_eq, List.length_append, List.length_map]
theorem insAll_pair (id : Int) : ∀ (r : List Int) (l : List (Int × Int)), l.Pairwise ordH → r.Nodup → (∀ h ∈ l, h.1 = id → h.2 ∉ r) → (insAll id r l).Pairwise ordH
  | [], l, hl, _, _ => hl
  | c :: r, l, hl, hr, hn => by
    rw [List.nodup_cons] at hr
    have hno : ((id, c) : Int × Int) ∉ l := fun hm => hn _ hm rfl List.mem_cons_self
    refine insAll_pair id r _ (hold_pair l (id, c) hl hno) hr.2 (fun h hh he => ?_)
    rcases List.mem_append.mp ((insB_perm _ (id, c) l).mem_iff.mp hh) with hh | hh
    · exact fun hx => hn h hh he (List.mem_cons_of_mem _ hx)
    · rw [List.mem_singleton.mp hh]; exact hr.1
/-! ### a node takes on an id -/
def seeK (up : List Int) (n id : Int) (x : KEEP) : KEEP := (insB (fun y => decide (y < id)) id x.1, insAll id (childGo n 0 up) x.2.1, x.2.2 ++ [id])
def fitK (x : KEEP) : Prop := x.1.length ≤ 1000000 ∧ x.2.1.length ≤ 1000000 ∧ x.2.2.length ≤ 1000000
theorem see_inner (up : List Int) (ks : List KEEP) (sl : List SLIP) (lo : List Int) (k : Nat) (n id t33 t34 r0i : Int) (c : List Int) (sn rc : List Int) (h : Int × Int) (hs : List (Int × Int)) (go0 : _ → Option (List Int × List KEEP × List SLIP × List Int)) (hl : hs.length ≤ 10000000) (hk : 10000001 ≤ k) :
    iter (spec_l16See.s2 k go0) k (n, id, 0, t33, t34, ks, r0i, sl, lo, up, h.1, h.2, c, sn, hs, rc) = go0 (n, id, t33, w64 (t34 + 1), ks, r0i, sl, lo, up, c, sn, insB (fun x => lessB x h) h hs, rc) := by
  have hK : ∀ i : Int, 0 ≤ i → i ≤ (hs.length : Int) → ∀ T : Option (List Int × List KEEP × List SLIP × List Int), (grd (decide (0 ≤ i)) <| grd (decide (i ≤ (hs.length : Int))) <| grd (decide ((cut hs 0 i).length * 16 ≤ 140737488355328)) <| grd (decide (((cut hs 0 i).length + 1) * 16 ≤ 140737488355328)) <| grd (decide (0 ≤ i)) <| grd (decide (i ≤ (hs.length : Int))) <| grd (decide ((((cut hs 0 i) ++ [(h.1, h.2)]).length + (cut hs i (hs.length : Int)).length) * 16 ≤ 140737488355328)) <| T) = T := fun i h0 h1 T => by
    obtain ⟨c1, c2⟩ := cut_len0 hs i h0 h1
    rw [grd_dec h0, grd_dec h1, grd_dec (by omega), grd_dec (by omega), grd_dec h0, grd_dec h1, grd_dec (by rw [List.length_append, List.length_singleton]; omega)]
  refine (stop_loop (step := spec_l16See.s2 k go0) (0, 0) hs (fun x => lessB x h) (fun i => (n, id, i, t33, t34, ks, r0i, sl, lo, up, h.1, h.2, c, sn, hs, rc)) (fun i => go0 (n, id, t33, w64 (t34 + 1), ks, r0i, sl, lo, up, c, sn, ((cut hs 0 i) ++ [(h.1, h.2)]) ++ (cut hs i (hs.length : Int)), rc)) ?_ ?_ k (by omega)).trans ?_
  · intro rec i h0 h1
    unfold spec_l16See.s2
    simp only []
    rw [bif_dec_t h1, grd_dec h0, grd_dec h1, w64_id (n := i + 1) (by omega) (by omega), spec_less_eq, Option.bind_some]
    cases lessB (rdOf (0, 0) hs i) h with
    | true => rfl
    | false => simp only [cond_false]; rw [hK i h0 (by omega)]
  · intro rec
    unfold spec_l16See.s2
    simp only []
    rw [bif_dec_f (Int.lt_irrefl _), hK _ (by omega) (Int.le_refl _)]
  · show go0 _ = _
    rw [show ((h.1, h.2) : Int × Int) = h from rfl, cuts_ins]
theorem spec_see_eq (up : List Int) (ks : List KEEP) (sl : List SLIP) (lo : List Int) (n id : Int) (h0 : 0 ≤ n) (h1 : n < (ks.length : Int)) (hu : up.length ≤ 8) (hx : fitK (rdOf keep0 ks n)) (hn : hasI (rdOf keep0 ks n).1 id = false) :
    spec_l16See up n id ks sl lo = some (up, setI ks n (seeK up n id (rdOf keep0 ks n)), sl, lo) := by
  unfold keep0 at hx hn ⊢
  obtain ⟨x1, x2, x3⟩ := hx
  have hc := childGo_len n up 0
  refine lim_eq 10000100 fun k hk => ?_
  unfold spec_l16See.g
  rw [grd_dec h0, grd_dec h1, l7Put_eq _ _ (by omega) hn, Option.bind_some, grd_dec (by omega), spec_children_eq up n (by omega), Option.bind_some]
  generalize hcc : childGo n 0 up = c at hc ⊢
  refine (scan_run (step := spec_l16See.s0 k) (c.length : Int) (fun i (hs : List (Int × Int)) => (n, id, (c.length : Int), i, ks, n, sl, lo, up, c, insB (fun y => decide (y < id)) id (rdOf ([], [], []) ks n).1, hs, (rdOf ([], [], []) ks n).2.2 ++ [id])) (fun i hs => some (up, setI ks n (insB (fun y => decide (y < id)) id (rdOf ([], [], []) ks n).1, insAll id (c.drop i.toNat) hs, (rdOf ([], [], []) ks n).2.2 ++ [id]), sl, lo)) (fun i hs => (hs.length : Int) ≤ 1000000 + i) ?_ k 0 _ (Int.le_refl _) (by omega) (by omega) (by omega)).trans ?_
  · intro rec i hs g0 g1 hJ ih
    unfold spec_l16See.s0
    simp only []
    by_cases hlt : i < (c.length : Int)
    · rw [bif_dec_t hlt, grd_dec g0, grd_dec hlt, see_inner (h := (id, rdOf 0 c i)) (hl := by omega) (hk := by omega), w64_id (n := i + 1) (by omega) (by omega), dropI 0 c i g0 hlt, insAll]
      exact ih hlt _ (by rw [insB_len]; omega)
    · rw [bif_dec_f hlt, grd_dec h0, grd_dec h1, grd_dec trivial, dropE c i (by omega), insAll]
  · unfold seeK
    rw [hcc]
    rfl
theorem impl_children_eq (up : List Int) (node : Int) (h : up.length ≤ 1000000000) (ht : treeB up = true) (hn : 0 ≤ node) : impl_children up node = some (childGo node 0 up) := by
  have h0 : rdOf 0 up 0 = -1 := by
    unfold treeB at ht
    rw [Bool.and_eq_true] at ht
    cases up with
    | nil => exact absurd ht.2 (by decide)
    | cons u r =>
      have h1 := ht.1
      unfold treeGo at h1
      rw [Bool.and_eq_true] at h1
      have h2 := h1.1
      show u = -1
      revert h2
      simp
  refine lim_eq (up.length + 1) fun k hk => ?_
  unfold impl_children.g
  refine (scan_run (step := impl_children.s0 k) (up.length : Int) (fun i (r : List Int) => (node, up, (up.length : Int), i, r)) (fun i r => some (r ++ childGo node i (up.drop i.toNat))) (fun i r => (r.length : Int) ≤ i) ?_ k 0 [] (Int.le_refl _) (by omega) (by simp) (by omega)).trans ?_
  · intro rec i r g0 g1 hJ ih
    unfold impl_children.s0
    simp only []
    by_cases hlt : i < (up.length : Int)
    · rw [bif_dec_t hlt, grd_dec g0, grd_dec hlt, w64_id (n := i + 1) (by omega) (by omega), grd_dec (show (r.length + 1) * 8 ≤ 140737488355328 by omega), dropI 0 up i g0 hlt, childGo]
      rw [ih hlt (r ++ [i]) (by simp; omega), ih hlt r (by omega)]
      by_cases hi : 0 < i
      · rw [decide_eq_true hi, Bool.true_and]
        cases rdOf 0 up i == node with
        | true => simp only [cond_true, List.append_assoc, List.singleton_append]
        | false => rfl
      · have hi0 : i = 0 := by omega
        subst hi0
        have hne : (rdOf 0 up 0 == node) = false := by rw [h0, beq_eq_false_iff_ne]; omega
        rw [hne, decide_eq_false (Int.lt_irrefl 0)]
        rfl
    · rw [bif_dec_f hlt, dropE up i (by omega), childGo, List.append_nil]
  · rfl
theorem setI_len {α : Type} (l : List α) (i : Int) (v : α) : (setI l i v).length = l.length := by
  unfold setI
  rw [List.length_set]
theorem childGo_sorted (node : Int) : ∀ (l : List Int) (i : Int), (∀ x ∈ childGo node i l, i ≤ x ∧ x < i + l.length) ∧ (childGo node i l).Pairwise (· < ·)
  | [], i => ⟨fun x hx => absurd hx List.not_mem_nil, List.Pairwise.nil⟩
  | y :: r, i => by
    obtain ⟨h1, h2⟩ := childGo_sorted node r (i + 1)
    rw [childGo]
    simp only [List.length_cons]
    cases decide (0 < i) && (y == node) with
    | true =>
      refine ⟨fun x hx => ?_, List.pairwise_cons.mpr ⟨fun x hx => by have := h1 x hx; omega, h2⟩⟩
      rcases List.mem_cons.mp hx with rfl | hx
      · omega
      · have := h1 x hx; omega
    | false => exact ⟨fun x hx => by have := h1 x hx; omega, h2⟩
/-- a keeper in order -/
structure OrdK (x : KEEP) : Prop where
  fit : fitK x
  seen : x.1.Pairwise (· < ·)
  ids : ∀ y ∈ x.1, 0 ≤ y ∧ y < 6
  holds : x.2.1.Pairwise ordH
  hid : ∀ h ∈ x.2.1, h.1 ∈ x.1 ∧ 0 ≤ h.2 ∧ h.2 < 8
theorem okI_small {n : Int} (h0 : 0 ≤ n) (h1 : n < 1000) : okI n = true := by
  unfold okI
  rw [Bool.and_eq_true, decide_eq_true_eq, decide_eq_true_eq]
  omega
theorem impl_see_eq (up : List Int) (ks : List KEEP) (sl : List SLIP) (lo : List Int) (n id : Int) (h0 : 0 ≤ n) (h1 : n < (ks.length : Int)) (ht : treeB up = true) (hx : OrdK (rdOf keep0 ks n)) (hn : hasI (rdOf keep0 ks n).1 id = false) (hi : 0 ≤ id ∧ id < 6) :
    impl_Custody_see n id up ks sl lo = some (up, setI ks n (seeK up n id (rdOf keep0 ks n)), sl, lo) := by
  have hu := (tree_len ht).2
  unfold keep0 at hx hn ⊢
  obtain ⟨⟨x1, x2, x3⟩, x4, x5, x6, x7⟩ := hx
  generalize hX : rdOf (([], [], []) : KEEP) ks n = x at *
  obtain ⟨sn, hs0, rc⟩ := x
  simp only [] at x1 x2 x3 x4 x5 x6 x7 hn
  have hno : id ∉ sn := fun hm => by rw [(hasI_iff sn id).2 hm] at hn; cases hn
  have hc := childGo_len n up 0
  have hcs := childGo_sorted n up 0
  refine lim_eq 10000100 fun k hk => ?_
  unfold impl_Custody_see.g
  rw [hX]
  simp only []
  rw [grd_dec h0, grd_dec h1, grd_dec (by omega), grd_dec trivial, rd_setI _ _ _ _ h0 h1]
  simp only [setI_setI]
  have hsort : sortF (sn ++ [id]) = some (insB (fun y => decide (y < id)) id sn) := by
    unfold sortF
    rw [bif_dec_t (by rw [List.length_append, List.length_singleton]; omega), seen_sort sn id x4 hno]
  rw [hsort, Option.bind_some, rd_setI _ _ _ _ h0 h1]
  simp only []
  rw [grd_dec (by omega), impl_children_eq up n (by omega) ht h0, Option.bind_some]
  generalize hcc : childGo n 0 up = c at hc hcs ⊢
  have hfin : sortHF (hs0 ++ c.map (fun ch => (id, ch))) = some (insAll id c hs0) := by
    unfold sortHF
    have hall : (hs0 ++ c.map (fun ch => (id, ch))).all okH = true := by
      rw [List.all_eq_true]
      intro h hh
      rcases List.mem_append.mp hh with hh | hh
      · obtain ⟨q1, q2, q3⟩ := x7 h hh
        have := x5 _ q1
        unfold okH
        rw [okI_small (by omega) (by omega), okI_small (by omega) (by omega)]
        rfl
      · obtain ⟨ch, hch, rfl⟩ := List.mem_map.mp hh
        have := hcs.1 ch hch
        unfold okH
        simp only []
        rw [okI_small (by omega) (by omega), okI_small (by omega) (by omega)]
        rfl
    rw [hall, decide_eq_true (by rw [List.length_append, List.length_map]; omega), Bool.and_self, cond_true]
    congr 1
    exact hold_sort _ _ (insAll_pair id c hs0 x6 (hcs.2.imp (fun h => by omega)) (fun h hh he => absurd (he ▸ (x7 h hh).1) hno)) (insAll_perm id c hs0)
  refine (scan_run (step := impl_Custody_see.s0 k) (c.length : Int) (fun i (hs : List (Int × Int)) => (id, n, (c.length : Int), i, up, setI ks n (insB (fun y => decide (y < id)) id sn, hs, rc ++ [id]), sl, lo, c)) (fun i hs => (sortHF (hs ++ (c.drop i.toNat).map (fun ch => (id, ch)))).bind fun c8 => some (up, setI ks n (insB (fun y => decide (y < id)) id sn, c8, rc ++ [id]), sl, lo)) (fun i hs => (hs.length : Int) ≤ 1000000 + i) ?_ k 0 hs0 (Int.le_refl _) (by omega) (by omega) (by omega)).trans ?_
  · intro rec i hs g0 g1 hJ ih
    unfold impl_Custody_see.s0
    simp only []
    by_cases hlt : i < (c.length : Int)
    · rw [bif_dec_t hlt, grd_dec g0, grd_dec hlt, rd_setI _ _ _ _ h0 h1]
      simp only [setI_setI]
      rw [grd_dec (by omega), w64_id (n := i + 1) (by omega) (by omega)]
      refine (ih hlt (hs ++ [(id, rdOf 0 c i)]) (by rw [List.length_append, List.length_singleton]; omega)).trans ?_
      rw [dropI 0 c i g0 hlt, List.map_cons, List.append_assoc, List.singleton_append]
    · rw [bif_dec_f hlt, rd_setI _ _ _ _ h0 h1, dropE c i (by omega), List.map_nil, List.append_nil]
      simp only [setI_setI]
  · show (sortHF (hs0 ++ c.map (fun ch => (id, ch)))).bind _ = _
    rw [hfin, Option.bind_some]
    unfold seeK
    rw [hcc]
/-! ### a slip is taken -/
def giveK (up : List Int) (ks : List KEEP) (n id : Int) : List KEEP := bif hasI (rdOf keep0 ks n).1 id then ks else setI ks n (seeK up n id (rdOf keep0 ks n))
def ackS (sl : List SLIP) (z : SLIP) : List SLIP := bif decide (sl.length < 30) then sl ++ [z] else sl
def dropK (ks : List KEEP) (n id fr : Int) : List KEEP := setI ks n ((rdOf keep0 ks n).1, outH id fr (rdOf keep0 ks n).2.1, (rdOf keep0 ks n).2.2)
def comeP (up : List Int) (ks : List KEEP) (sl : List SLIP) (z : SLIP) : List KEEP × List SLIP :=
  bif z.1 == 1 then (giveK up ks z.2.2.1 z.2.2.2, ackS sl (2, z.2.2.1, z.2.1, z.2.2.2)) else (dropK ks z.2.2.1 z.2.2.2 z.2.1, sl)
theorem impl_put_eq (z : SLIP) (up : List Int) (ks : List KEEP) (sl : List SLIP) (lo : List Int) (hs : sl.length ≤ 30) : impl_Custody_put z.1 z.2.1 z.2.2.1 z.2.2.2 up ks sl lo = some (decide (sl.length < 30), up, ks, ackS sl z, lo) := by
  unfold impl_Custody_put ackS
  by_cases h : sl.length = 30
  · rw [show ((sl.length : Int) == 30) = true by rw [beq_iff_eq]; omega, decide_eq_false (show ¬ sl.length < 30 by omega)]
    rfl
  · rw [show ((sl.length : Int) == 30) = false by rw [beq_eq_false_iff_ne]; omega, decide_eq_true (show sl.length < 30 by omega), cond_false, grd_dec (by omega)]
    rfl
theorem impl_take_eq (up : List Int) (ks : List KEEP) (sl : List SLIP) (lo : List Int) (z : SLIP) (h0 : 0 ≤ z.2.2.1) (h1 : z.2.2.1 < (ks.length : Int)) (ht : treeB up = true) (hx : OrdK (rdOf keep0 ks z.2.2.1)) (hi : 0 ≤ z.2.2.2 ∧ z.2.2.2 < 6) (hs : sl.length ≤ 30) (hz : z.1 = 1 ∨ z.1 = 2) :
    impl_Custody_take z.1 z.2.1 z.2.2.1 z.2.2.2 up ks sl lo = some (up, (comeP up ks sl z).1, (comeP up ks sl z).2, lo) := by
  have hx1 := hx.fit.1
  have hx2 := hx.fit.2.1
  unfold impl_Custody_take comeP
  rcases hz with hz | hz
  · rw [hz]
    rw [show ((1 : Int) == 2) = false from rfl, show ((1 : Int) == 1) = true from rfl, cond_false, cond_true, grd_dec h0, grd_dec h1]
    rw [contains_int_eq _ _ (by unfold keep0 at hx1; omega), Option.bind_some]
    unfold giveK
    unfold keep0 at *
    cases hh : hasI (rdOf ([], [], []) ks z.2.2.1).1 z.2.2.2 with
    | true =>
      rw [Bool.not_true, cond_false, impl_put_eq (2, z.2.2.1, z.2.1, z.2.2.2) up ks sl lo hs, Option.bind_some]
      rfl
    | false =>
      have hsee := impl_see_eq up ks sl lo z.2.2.1 z.2.2.2 h0 h1 ht hx hh hi
      rw [Bool.not_false, cond_true, hsee, Option.bind_some]
      simp only []
      rw [impl_put_eq (2, z.2.2.1, z.2.1, z.2.2.2) up _ sl lo hs, Option.bind_some]
      rfl
  · rw [hz]
    rw [show ((2 : Int) == 2) = true from rfl, show ((2 : Int) == 1) = false from rfl, cond_true, cond_false, grd_dec h0, grd_dec h1]
    have ho : outHF z.2.2.2 z.2.1 (rdOf (([], [], []) : KEEP) ks z.2.2.1).2.1 = some (outH z.2.2.2 z.2.1 (rdOf (([], [], []) : KEEP) ks z.2.2.1).2.1) := by
      unfold outHF
      rw [bif_dec_t (by unfold keep0 at hx2; omega)]
    rw [ho, Option.bind_some, grd_dec rfl]
    rfl
theorem spec_come_eq (up : List Int) (ks : List KEEP) (sl : List SLIP) (lo : List Int) (z : SLIP) (h0 : 0 ≤ z.2.2.1) (h1 : z.2.2.1 < (ks.length : Int)) (hu : up.length ≤ 8) (hx : fitK (rdOf keep0 ks z.2.2.1)) (hs : sl.length ≤ 30) :
    spec_l16Come up z.1 z.2.1 z.2.2.1 z.2.2.2 ks sl lo = some (up, (comeP up ks sl z).1, (comeP up ks sl z).2, lo) := by
  have hx1 := hx.1
  have hx2 := hx.2.1
  refine lim_eq 10000100 fun k hk => ?_
  unfold spec_l16Come.g comeP
  cases hz : z.1 == 1 with
  | true =>
    rw [cond_true, cond_true, grd_dec h0, grd_dec h1, spec_has_eq _ _ (by unfold keep0 at hx1; omega), Option.bind_some]
    unfold giveK ackS
    unfold keep0 at *
    have hd : decide ((sl.length : Int) < 30) = decide (sl.length < 30) := by
      by_cases h : sl.length < 30
      · rw [decide_eq_true h, decide_eq_true (by omega)]
      · rw [decide_eq_false h, decide_eq_false (by omega)]
    cases hh : hasI (rdOf ([], [], []) ks z.2.2.1).1 z.2.2.2 with
    | true =>
      rw [Bool.not_true, cond_false, hd, grd_dec (by omega)]
      cases decide (sl.length < 30) <;> rfl
    | false =>
      have hsee := spec_see_eq up ks sl lo z.2.2.1 z.2.2.2 h0 h1 hu hx hh
      rw [Bool.not_false, cond_true, hsee, Option.bind_some]
      simp only []
      rw [hd, grd_dec (by omega)]
      cases decide (sl.length < 30) <;> rfl
  | false =>
    rw [cond_false, cond_false, grd_dec h0, grd_dec h1]
    unfold dropK
    unfold keep0 at *
    generalize hX : rdOf (([], [], []) : KEEP) ks z.2.2.1 = x at *
    refine (scan_run (step := spec_l16Come.s0 k) (x.2.1.length : Int) (fun i (r : List (Int × Int)) => (x.2.1, (x.2.1.length : Int), i, ks, sl, lo, up, z.1, z.2.1, z.2.2.1, z.2.2.2, r)) (fun i r => some (up, setI ks z.2.2.1 (x.1, r ++ outH z.2.2.2 z.2.1 (x.2.1.drop i.toNat), x.2.2), sl, lo)) (fun i r => (r.length : Int) ≤ i) ?_ k 0 [] (Int.le_refl _) (by omega) (by simp) (by omega)).trans ?_
    · intro rec i r g0 g1 hJ ih
      unfold spec_l16Come.s0
      simp only []
      by_cases hlt : i < (x.2.1.length : Int)
      · rw [bif_dec_t hlt, grd_dec g0, grd_dec hlt, w64_id (n := i + 1) (by omega) (by omega), dropI (0, 0) x.2.1 i g0 hlt]
        have e1 := ih hlt (r ++ [rdOf (0, 0) x.2.1 i]) (by rw [List.length_append, List.length_singleton]; omega)
        have e2 := ih hlt r (by omega)
        rw [grd_dec (show (r.length + 1) * 16 ≤ 140737488355328 by omega)]
        have ho : ∀ l, outH z.2.2.2 z.2.1 (rdOf (0, 0) x.2.1 i :: l) = bif !(((rdOf (0, 0) x.2.1 i).1 == z.2.2.2) && ((rdOf (0, 0) x.2.1 i).2 == z.2.1)) then rdOf (0, 0) x.2.1 i :: outH z.2.2.2 z.2.1 l else outH z.2.2.2 z.2.1 l := fun l => by
          unfold outH
          rw [List.filter_cons]
          cases !(((rdOf (0, 0) x.2.1 i).1 == z.2.2.2) && ((rdOf (0, 0) x.2.1 i).2 == z.2.1)) <;> rfl
        rw [ho, bne_of, bne_of]
        cases ((rdOf (0, 0) x.2.1 i).1 == z.2.2.2) with
        | false =>
          simp only [Bool.false_and, Bool.not_false, cond_true]
          refine e1.trans ?_
          rw [List.append_assoc, List.singleton_append]
        | true =>
          cases ((rdOf (0, 0) x.2.1 i).2 == z.2.1) with
          | false =>
            simp only [Bool.and_false, Bool.not_true, Bool.not_false, cond_true, cond_false]
            refine e1.trans ?_
            rw [List.append_assoc, List.singleton_append]
          | true =>
            simp only [Bool.and_self, Bool.not_true, cond_false]
            exact e2
      · rw [bif_dec_f hlt, grd_dec h0, grd_dec h1, hX, dropE x.2.1 i (by omega)]
        simp [outH]
    · simp
/-! ### what holds of a custody as it goes -/
structure KInv (N : Int) (T : Nat) (x : KEEP) : Prop where
  ord : OrdK x
  ch : ∀ h ∈ x.2.1, h.2 < N
  l1 : x.1.length ≤ T
  l2 : x.2.1.length ≤ 8 * T
  l3 : x.2.2.length ≤ T
theorem KInv.up {N : Int} {T T' : Nat} {x : KEEP} (h : KInv N T x) (hT : T ≤ T') : KInv N T' x := ⟨h.ord, h.ch, Nat.le_trans h.l1 hT, Nat.le_trans h.l2 (Nat.mul_le_mul_left 8 hT), Nat.le_trans h.l3 hT⟩
theorem KInv.nil (N : Int) : KInv N 0 ([], [], []) where
  ord := ⟨⟨Nat.zero_le _, Nat.zero_le _, Nat.zero_le _⟩, List.Pairwise.nil, fun y hy => absurd hy List.not_mem_nil, List.Pairwise.nil, fun y hy => absurd hy List.not_mem_nil⟩
  ch := fun y hy => absurd hy List.not_mem_nil
  l1 := Nat.le_refl _
  l2 := Nat.le_refl _
  l3 := Nat.le_refl _
theorem KInv.see {up : List Int} {T : Nat} {x : KEEP} {n id : Int} (h : KInv (up.length : Int) T x) (ht : treeB up = true) (hT : T ≤ 1000) (hi : 0 ≤ id ∧ id < 6) (hn : hasI x.1 id = false) : KInv (up.length : Int) (T + 1) (seeK up n id x) := by
  have hu := (tree_len ht).2
  have hno : id ∉ x.1 := fun hm => by rw [(hasI_iff x.1 id).2 hm] at hn; cases hn
  have hcs := childGo_sorted n up 0
  have hcl := childGo_len n up 0
  have hh := h.ord
  have hl1 := h.l1
  have hl2 := h.l2
  have hl3 := h.l3
  have hmem : ∀ q ∈ insAll id (childGo n 0 up) x.2.1, q ∈ x.2.1 ∨ (q.1 = id ∧ 0 ≤ q.2 ∧ q.2 < (up.length : Int)) := fun q hq => by
    rcases List.mem_append.mp ((insAll_perm id _ _).mem_iff.mp hq) with hq | hq
    · exact .inl hq
    · obtain ⟨c, hc, rfl⟩ := List.mem_map.mp hq
      have := hcs.1 c hc
      exact .inr ⟨rfl, by simp only []; omega, by simp only []; omega⟩
  have hids : ∀ y ∈ insB (fun y => decide (y < id)) id x.1, y ∈ x.1 ∨ y = id := fun y hy => by
    rcases List.mem_append.mp ((insB_perm _ id x.1).mem_iff.mp hy) with hy | hy
    · exact .inl hy
    · exact .inr (List.mem_singleton.mp hy)
  have m1 : (seeK up n id x).1.length ≤ T + 1 := by show (insB _ id x.1).length ≤ T + 1; rw [insB_len]; omega
  have m2 : (seeK up n id x).2.1.length ≤ 8 * (T + 1) := by show (insAll id _ x.2.1).length ≤ _; rw [insAll_len]; omega
  have m3 : (seeK up n id x).2.2.length ≤ T + 1 := by show (x.2.2 ++ [id]).length ≤ _; rw [List.length_append, List.length_singleton]; omega
  refine ⟨⟨⟨by omega, by omega, by omega⟩, seen_pair x.1 id hh.seen hno, fun y hy => ?_, insAll_pair id _ _ hh.holds (hcs.2.imp (fun h => by omega)) (fun q hq he => absurd (he ▸ (hh.hid q hq).1) hno), fun q hq => ?_⟩, fun q hq => ?_, m1, m2, m3⟩
  · rcases hids y hy with hy | rfl
    · exact hh.ids y hy
    · exact hi
  · have hin : ∀ y ∈ x.1, y ∈ (seeK up n id x).1 := fun y hy => (insB_perm _ id x.1).mem_iff.mpr (List.mem_append_left _ hy)
    rcases hmem q hq with hq | ⟨q1, q2, q3⟩
    · exact ⟨hin _ (hh.hid q hq).1, (hh.hid q hq).2⟩
    · refine ⟨?_, q2, by omega⟩
      rw [q1]
      exact (insB_perm _ id x.1).mem_iff.mpr (List.mem_append_right _ (List.mem_singleton.mpr rfl))
  · rcases hmem q hq with hq | ⟨q1, q2, q3⟩
    · exact h.ch q hq
    · exact q3
theorem KInv.drop {N : Int} {T : Nat} {x : KEEP} {id fr : Int} (h : KInv N T x) : KInv N T (x.1, outH id fr x.2.1, x.2.2) := by
  have hs : (outH id fr x.2.1).Sublist x.2.1 := List.filter_sublist
  have hl := hs.length_le
  have hf := h.ord.fit
  exact ⟨⟨⟨hf.1, Nat.le_trans hl hf.2.1, hf.2.2⟩, h.ord.seen, h.ord.ids, h.ord.holds.sublist hs, fun q hq => h.ord.hid q (hs.subset hq)⟩, fun q hq => h.ch q (hs.subset hq), h.l1, Nat.le_trans hl h.l2, h.l3⟩
def SInv (N : Int) (z : SLIP) : Prop := (z.1 = 1 ∨ z.1 = 2) ∧ (0 ≤ z.2.1 ∧ z.2.1 < N) ∧ (0 ≤ z.2.2.1 ∧ z.2.2.1 < N) ∧ 0 ≤ z.2.2.2 ∧ z.2.2.2 < 6
structure CInv (T : Nat) (up : List Int) (ks : List KEEP) (sl : List SLIP) (lo : List Int) : Prop where
  tree : treeB up = true
  len : ks.length = up.length
  keep : ∀ x ∈ ks, KInv (up.length : Int) T x
  slips : ∀ z ∈ sl, SInv (up.length : Int) z
  many : sl.length ≤ 30
  sent : lo.length ≤ T
theorem mem_setI {α : Type} {l : List α} {i : Int} {v x : α} (h : x ∈ setI l i v) : x ∈ l ∨ x = v := by
  unfold setI at h
  exact List.mem_or_eq_of_mem_set h
theorem CInv.at {T : Nat} {up : List Int} {ks : List KEEP} {sl : List SLIP} {lo : List Int} (h : CInv T up ks sl lo) {n : Int} (h0 : 0 ≤ n) (h1 : n < (ks.length : Int)) : KInv (up.length : Int) T (rdOf keep0 ks n) := h.keep _ (rd_in keep0 ks n h0 h1)
theorem CInv.give {T : Nat} {up : List Int} {ks : List KEEP} {sl : List SLIP} {lo : List Int} (h : CInv T up ks sl lo) (hT : T ≤ 1000) {n id : Int} (h0 : 0 ≤ n) (h1 : n < (ks.length : Int)) (hi : 0 ≤ id ∧ id < 6) (hn : hasI (rdOf keep0 ks n).1 id = false) : ∀ x ∈ setI ks n (seeK up n id (rdOf keep0 ks n)), KInv (up.length : Int) (T + 1) x := fun x hx => by
  rcases mem_setI hx with hx | rfl
  · exact (h.keep x hx).up (Nat.le_succ _)
  · exact (h.at h0 h1).see h.tree hT hi hn
theorem ack_mem {sl : List SLIP} {z y : SLIP} (h : y ∈ ackS sl z) : y ∈ sl ∨ y = z := by
  unfold ackS at h
  cases hd : decide (sl.length < 30) with
  | true => rw [hd] at h; exact (List.mem_append.mp h).imp id (fun h => List.mem_singleton.mp h)
  | false => rw [hd] at h; exact .inl h
theorem ack_len {sl : List SLIP} {z : SLIP} (h : sl.length ≤ 30) : (ackS sl z).length ≤ 30 := by
  unfold ackS
  by_cases hd : sl.length < 30
  · rw [decide_eq_true hd, cond_true, List.length_append, List.length_singleton]; omega
  · rw [decide_eq_false hd]; exact h
theorem CInv.come {T : Nat} {up : List Int} {ks : List KEEP} {sl : List SLIP} {lo : List Int} (h : CInv T up ks sl lo) (hT : T ≤ 1000) {z : SLIP} (hz : SInv (up.length : Int) z) : CInv (T + 1) up (comeP up ks sl z).1 (comeP up ks sl z).2 lo := by
  obtain ⟨z1, z2, z3, z4⟩ := hz
  have hl := h.len
  unfold comeP
  cases hk : z.1 == 1 with
  | true =>
    rw [cond_true]
    refine ⟨h.tree, ?_, ?_, fun y hy => ?_, ack_len h.many, Nat.le_succ_of_le h.sent⟩
    · show (giveK up ks _ _).length = _
      unfold giveK
      cases hasI (rdOf keep0 ks z.2.2.1).1 z.2.2.2 with
      | true => exact hl
      | false => rw [cond_false, setI_len]; exact hl
    · show ∀ x ∈ giveK up ks _ _, _
      unfold giveK
      cases hh : hasI (rdOf keep0 ks z.2.2.1).1 z.2.2.2 with
      | true => exact fun x hx => (h.keep x hx).up (Nat.le_succ _)
      | false => exact h.give hT z3.1 (by omega) z4 hh
    · rcases ack_mem hy with hy | rfl
      · exact h.slips y hy
      · exact ⟨.inr rfl, z3, z2, z4⟩
  | false =>
    rw [cond_false]
    refine ⟨h.tree, by show (setI ks _ _).length = _; rw [setI_len]; exact hl, fun x hx => ?_, h.slips, h.many, Nat.le_succ_of_le h.sent⟩
    rcases mem_setI hx with hx | rfl
    · exact (h.keep x hx).up (Nat.le_succ _)
    · exact ((h.at z3.1 (by omega)).drop).up (Nat.le_succ _)
/-! ### one step -/
abbrev slip0 : SLIP := (0, 0, 0, 0)
def stepP (up : List Int) (ks : List KEEP) (sl : List SLIP) (lo : List Int) (kd nd id j : Int) : Bool × List KEEP × List SLIP × List Int :=
  bif kd == 1 then
    bif !(decide (0 ≤ id) && decide (id < 6)) || hasI (rdOf keep0 ks 0).1 id then (false, ks, sl, lo)
    else (true, setI ks 0 (seeK up 0 id (rdOf keep0 ks 0)), sl, lo ++ [id])
  else bif kd == 2 then
    bif !(decide (0 ≤ nd) && decide (nd < (up.length : Int))) || !(decide (0 ≤ j) && decide (j < ((rdOf keep0 ks nd).2.1.length : Int))) then (false, ks, sl, lo)
    else (decide (sl.length < 30), ks, ackS sl (1, nd, (rdOf (0, 0) (rdOf keep0 ks nd).2.1 j).2, (rdOf (0, 0) (rdOf keep0 ks nd).2.1 j).1), lo)
  else bif !(decide (0 ≤ j) && decide (j < (sl.length : Int))) || !(kd == 3 || kd == 4 || kd == 5) then (false, ks, sl, lo)
  else bif kd == 5 then (decide (sl.length < 30), ks, ackS sl (rdOf slip0 sl j), lo)
  else bif kd == 3 then (true, (comeP up ks (sl.eraseIdx j.toNat) (rdOf slip0 sl j)).1, (comeP up ks (sl.eraseIdx j.toNat) (rdOf slip0 sl j)).2, lo)
  else (true, ks, sl.eraseIdx j.toNat, lo)
theorem le_pred {a b : Int} : decide (a ≤ b - 1) = decide (a < b) := by
  by_cases h : a < b
  · rw [decide_eq_true h, decide_eq_true (by omega)]
  · rw [decide_eq_false h, decide_eq_false (by omega)]
theorem le_five {a : Int} : decide (a ≤ 5) = decide (a < 6) := by
  by_cases h : a < 6
  · rw [decide_eq_true h, decide_eq_true (by omega)]
  · rw [decide_eq_false h, decide_eq_false (by omega)]
theorem two_dec {p q : Prop} [Decidable p] [Decidable q] (h : (decide p && decide q) = true) : p ∧ q := by
  rw [Bool.and_eq_true, decide_eq_true_eq, decide_eq_true_eq] at h
  exact h
theorem erase_len {α : Type} {l : List α} {j : Int} : (l.eraseIdx j.toNat).length ≤ l.length := (List.eraseIdx_sublist l j.toNat).length_le
theorem impl_step_eq {T : Nat} (up : List Int) (ks : List KEEP) (sl : List SLIP) (lo : List Int) (kd nd id j : Int) (h : CInv T up ks sl lo) (hT : T ≤ 1000) :
    impl_Custody_step kd nd id j up ks sl lo = some ((stepP up ks sl lo kd nd id j).1, up, (stepP up ks sl lo kd nd id j).2.1, (stepP up ks sl lo kd nd id j).2.2.1, (stepP up ks sl lo kd nd id j).2.2.2) := by
  have hu := tree_len h.tree
  have hl := h.len
  have hm := h.many
  have hse := h.sent
  have hpos : (0 : Int) < (ks.length : Int) := by omega
  unfold impl_Custody_step stepP
  cases h1 : kd == 1 with
  | true =>
    have hk := h.at (Int.le_refl 0) hpos
    have hf := hk.ord.fit.1
    unfold impl_isId
    rw [cond_true, cond_true, within_eq, Option.bind_some, Option.bind_some, le_five]
    cases hid : decide (0 ≤ id) && decide (id < 6) with
    | false => rfl
    | true =>
      rw [Bool.not_true, cond_false, Bool.false_or, grd_dec hpos, contains_int_eq _ _ (by unfold keep0 at hf; omega), Option.bind_some]
      unfold keep0
      cases hh : hasI (rdOf (([], [], []) : KEEP) ks 0).1 id with
      | true => rfl
      | false =>
        have hs := impl_see_eq up ks sl lo 0 id (Int.le_refl 0) hpos h.tree hk.ord hh (two_dec hid)
        rw [cond_false, cond_false, hs, Option.bind_some]
        simp only []
        rw [grd_dec (by omega)]
  | false =>
    rw [cond_false, cond_false]
    cases h2 : kd == 2 with
    | true =>
      rw [cond_true, cond_true, within_eq, Option.bind_some, w64_id (n := (up.length : Int) - 1) (by omega) (by omega), le_pred]
      cases hnd : decide (0 ≤ nd) && decide (nd < (up.length : Int)) with
      | false => rfl
      | true =>
        obtain ⟨n0, n1⟩ := two_dec hnd
        have hk := h.at n0 (by omega)
        have hf := hk.ord.fit.2.1
        unfold keep0 at hf ⊢
        rw [Bool.not_true, cond_false, Bool.false_or, grd_dec n0, grd_dec (show nd < (ks.length : Int) by omega), within_eq, Option.bind_some, w64_id (n := ((rdOf (([], [], []) : KEEP) ks nd).2.1.length : Int) - 1) (by omega) (by omega), le_pred]
        cases hj : decide (0 ≤ j) && decide (j < ((rdOf (([], [], []) : KEEP) ks nd).2.1.length : Int)) with
        | false => rfl
        | true =>
          obtain ⟨j0, j1⟩ := two_dec hj
          rw [Bool.not_true, cond_false, cond_false, grd_dec n0, grd_dec (show nd < (ks.length : Int) by omega), grd_dec j0, grd_dec j1, impl_put_eq (1, nd, (rdOf (0, 0) (rdOf (([], [], []) : KEEP) ks nd).2.1 j).2, (rdOf (0, 0) (rdOf (([], [], []) : KEEP) ks nd).2.1 j).1) up ks sl lo hm, Option.bind_some]
    | false =>
      rw [cond_false, cond_false]
      have hd : ∀ T : Option (Bool × List Int × List KEEP × List SLIP × List Int), ∀ F : Option (Bool × List Int × List KEEP × List SLIP × List Int), ((impl_within j 0 (w64 ((sl.length : Int) - 1))).bind fun c17 => bif (!c17) then F else grd (decide (0 ≤ j)) <| grd (decide (j < (sl.length : Int))) <| T) = bif !(decide (0 ≤ j) && decide (j < (sl.length : Int))) then F else T := fun T F => by
        rw [within_eq, Option.bind_some, w64_id (n := (sl.length : Int) - 1) (by omega) (by omega), le_pred]
        cases hj : decide (0 ≤ j) && decide (j < (sl.length : Int)) with
        | false => rfl
        | true =>
          obtain ⟨j0, j1⟩ := two_dec hj
          rw [Bool.not_true, cond_false, cond_false, grd_dec j0, grd_dec j1]
      simp only [hd]
      have hdel : (decide (0 ≤ j) && decide (j < (sl.length : Int))) = true → delF sl j (w64 (j + 1)) = some (sl.eraseIdx j.toNat) := fun hj => by
        obtain ⟨j0, j1⟩ := two_dec hj
        unfold delF
        rw [w64_id (n := j + 1) (by omega) (by omega), decide_eq_true j0, decide_eq_true j1, show (j + 1 == j + 1) = true from beq_self_eq_true _, decide_eq_true (show sl.length ≤ 1000000 by omega)]
        rfl
      cases hj : decide (0 ≤ j) && decide (j < (sl.length : Int)) with
      | false =>
        simp only [Bool.not_false, cond_true, Bool.true_or]
        cases kd == 3 <;> cases kd == 4 <;> cases kd == 5 <;> rfl
      | true =>
        obtain ⟨j0, j1⟩ := two_dec hj
        have hz : SInv (up.length : Int) (rdOf slip0 sl j) := h.slips _ (rd_in slip0 sl j j0 j1)
        rw [hdel hj]
        simp only [Bool.not_true, cond_false, Bool.false_or, Option.bind_some]
        unfold slip0 at hz ⊢
        have hput := impl_put_eq (rdOf ((0, 0, 0, 0) : SLIP) sl j) up ks sl lo hm
        have hlen : (ks.length : Int) = (up.length : Int) := by omega
        have htake := impl_take_eq up ks (sl.eraseIdx j.toNat) lo (rdOf ((0, 0, 0, 0) : SLIP) sl j) hz.2.2.1.1 (by rw [hlen]; exact hz.2.2.1.2) h.tree (h.at hz.2.2.1.1 (by rw [hlen]; exact hz.2.2.1.2)).ord hz.2.2.2 (Nat.le_trans erase_len hm) hz.1
        rw [hput, htake]
        simp only [Option.bind_some]
        by_cases k3 : kd = 3
        · subst k3; rfl
        · by_cases k4 : kd = 4
          · subst k4; rfl
          · by_cases k5 : kd = 5
            · subst k5; rfl
            · rw [beq_eq_false_iff_ne.mpr k3, beq_eq_false_iff_ne.mpr k4, beq_eq_false_iff_ne.mpr k5]
              rfl
theorem spec_own_eq (up : List Int) (ks : List KEEP) (sl : List SLIP) (lo : List Int) (hu : up.length ≤ 1000000) (hk : ks.length ≤ 1000000) (hf : ∀ x ∈ ks, fitK x) (hs : sl.length ≤ 1000000) (hlo : lo.length ≤ 1000000) : spec_l16Own up ks sl lo = some (up, ks, sl, lo) := by
  refine lim_eq 10000100 fun k hkk => ?_
  unfold spec_l16Own.g
  rw [grd_dec (by omega), grd_dec (by omega), grd_dec (by omega)]
  simp only [List.nil_append]
  refine (scan_run (step := spec_l16Own.s0 k) (ks.length : Int) (fun i (r : List KEEP) => (ks, (ks.length : Int), i, up, r, sl, lo)) (fun i r => some (up, r ++ ks.drop i.toNat, sl, lo)) (fun i r => (r.length : Int) ≤ i) ?_ k 0 [] (Int.le_refl _) (by omega) (by simp) (by omega)).trans (by simp)
  intro rec i r h0 h1 hJ ih
  unfold spec_l16Own.s0
  simp only []
  by_cases hlt : i < (ks.length : Int)
  · have hx := hf _ (rd_in keep0 ks i h0 hlt)
    unfold fitK keep0 at hx
    obtain ⟨x1, x2, x3⟩ := hx
    rw [bif_dec_t hlt, grd_dec h0, grd_dec hlt, grd_dec (by omega), grd_dec (by omega), grd_dec (by omega), grd_dec (by omega), w64_id (n := i + 1) (by omega) (by omega), dropI (([], [], []) : KEEP) ks i h0 hlt]
    simp only [List.nil_append]
    refine (ih hlt (r ++ [rdOf (([], [], []) : KEEP) ks i]) (by rw [List.length_append, List.length_singleton]; omega)).trans ?_
    rw [List.append_assoc, List.singleton_append]
  · rw [bif_dec_f hlt, dropE ks i (by omega), List.append_nil]
theorem spec_id_eq (n : Int) : spec_l16Id n = some (decide (0 ≤ n) && decide (n < 6)) := by
  unfold spec_l16Id
  by_cases h : n ≥ 0
  · rw [bif_dec_t h, decide_eq_true (show 0 ≤ n from h), Bool.true_and]
  · rw [bif_dec_f h, decide_eq_false (show ¬ 0 ≤ n from h), Bool.false_and]
theorem cut_erase {α : Type} (l : List α) (j : Int) (h0 : 0 ≤ j) (h1 : j < (l.length : Int)) : cut l 0 j ++ cut l (j + 1) (l.length : Int) = l.eraseIdx j.toNat := by
  unfold cut
  simp only [Int.toNat_zero, List.drop_zero, Int.toNat_natCast, List.take_length]
  rw [List.eraseIdx_eq_take_drop_succ, show (j + 1).toNat = j.toNat + 1 by omega]
theorem two_bif {ρ : Type} {a b : Int} (h : 0 ≤ b) (F T : ρ) (j : Int) : (bif decide (j < 0) then F else bif decide (j ≥ b) then F else T) = bif !(decide (0 ≤ j) && decide (j < b)) then F else T := by
  by_cases h0 : j < 0
  · rw [bif_dec_t h0, decide_eq_false (show ¬ 0 ≤ j by omega)]; rfl
  · rw [bif_dec_f h0, decide_eq_true (show 0 ≤ j by omega)]
    by_cases h1 : j ≥ b
    · rw [bif_dec_t h1, decide_eq_false (show ¬ j < b by omega)]; rfl
    · rw [bif_dec_f h1, decide_eq_true (show j < b by omega)]; rfl
theorem kind_eq (kd : Int) : (decide (3 ≤ kd) && decide (kd ≤ 5)) = (kd == 3 || kd == 4 || kd == 5) := by
  rw [Bool.eq_iff_iff, Bool.and_eq_true, Bool.or_eq_true, Bool.or_eq_true, decide_eq_true_eq, decide_eq_true_eq, beq_iff_eq, beq_iff_eq, beq_iff_eq]
  omega
theorem full_eq (sl : List SLIP) (h : sl.length ≤ 30) : ((sl.length : Int) == 30) = !decide (sl.length < 30) := by
  rw [Bool.eq_iff_iff, beq_iff_eq, Bool.not_eq_true', decide_eq_false_iff_not]
  omega
theorem spec_step_eq {T : Nat} (up : List Int) (ks : List KEEP) (sl : List SLIP) (lo : List Int) (kd nd id j : Int) (h : CInv T up ks sl lo) (hT : T ≤ 1000) :
    spec_l16Step up kd nd id j ks sl lo = some (up, (stepP up ks sl lo kd nd id j).1, (stepP up ks sl lo kd nd id j).2.1, (stepP up ks sl lo kd nd id j).2.2.1, (stepP up ks sl lo kd nd id j).2.2.2) := by
  have hu := tree_len h.tree
  have hl := h.len
  have hm := h.many
  have hse := h.sent
  have hpos : (0 : Int) < (ks.length : Int) := by omega
  have hlen : (ks.length : Int) = (up.length : Int) := by omega
  unfold spec_l16Step stepP
  cases h1 : kd == 1 with
  | true =>
    have hk := h.at (Int.le_refl 0) hpos
    have hf := hk.ord.fit
    rw [cond_true, cond_true, spec_id_eq, Option.bind_some]
    cases hid : decide (0 ≤ id) && decide (id < 6) with
    | false => rfl
    | true =>
      rw [Bool.not_true, cond_false, Bool.false_or, grd_dec hpos, spec_has_eq _ _ (by have := hf.1; unfold keep0 at this; omega), Option.bind_some]
      unfold keep0 at *
      cases hh : hasI (rdOf (([], [], []) : KEEP) ks 0).1 id with
      | true => rfl
      | false =>
        have hs := spec_see_eq up ks sl lo 0 id (Int.le_refl 0) hpos hu.2 hf hh
        rw [cond_false, cond_false, hs, Option.bind_some]
        simp only []
        rw [grd_dec (by omega)]
  | false =>
    rw [cond_false, cond_false]
    cases h2 : kd == 2 with
    | true =>
      rw [cond_true, cond_true, two_bif (a := 0) (by omega), hlen]
      cases hnd : decide (0 ≤ nd) && decide (nd < (up.length : Int)) with
      | false => rfl
      | true =>
        obtain ⟨n0, n1⟩ := two_dec hnd
        have hk := h.at n0 (by omega)
        unfold keep0
        rw [Bool.not_true, cond_false, Bool.false_or, grd_dec n0, grd_dec n1]
        rw [two_bif (a := 0) (b := ((rdOf (([], [], []) : KEEP) ks nd).2.1.length : Int)) (by omega)]
        cases hj : decide (0 ≤ j) && decide (j < ((rdOf (([], [], []) : KEEP) ks nd).2.1.length : Int)) with
        | false => rfl
        | true =>
          obtain ⟨j0, j1⟩ := two_dec hj
          rw [Bool.not_true, cond_false, cond_false, full_eq sl hm, grd_dec n0, grd_dec n1, grd_dec j0, grd_dec j1, grd_dec (by omega)]
          unfold ackS
          cases decide (sl.length < 30) <;> rfl
    | false =>
      rw [cond_false, cond_false, two_bif (a := 0) (by omega), in_eq, Option.bind_some, kind_eq]
      cases hj : decide (0 ≤ j) && decide (j < (sl.length : Int)) with
      | false => rfl
      | true =>
        obtain ⟨j0, j1⟩ := two_dec hj
        have hz : SInv (up.length : Int) (rdOf slip0 sl j) := h.slips _ (rd_in slip0 sl j j0 j1)
        rw [Bool.not_true, cond_false, Bool.false_or]
        cases hkk : (kd == 3 || kd == 4 || kd == 5) with
        | false => rfl
        | true =>
          rw [Bool.not_true, cond_false, cond_false, grd_dec j0, grd_dec j1]
          cases h5 : kd == 5 with
          | true =>
            rw [cond_true, cond_true, full_eq sl hm, grd_dec (by omega)]
            unfold ackS
            cases decide (sl.length < 30) <;> rfl
          | false =>
            obtain ⟨c1, c2⟩ := cut_len0 sl j j0 (by omega)
            obtain ⟨c3, c4⟩ := cut_len0 sl (j + 1) (by omega) (by omega)
            have hw : w64 (j + 1) = j + 1 := w64_id (by omega) (by omega)
            rw [cond_false, cond_false, hw]
            simp only [List.nil_append]
            rw [cut_erase sl j j0 j1]
            rw [grd_dec j0, grd_dec (by omega), grd_dec (by omega), grd_dec (by omega), grd_dec (by omega), grd_dec (by omega)]
            cases h3 : kd == 3 with
            | false => rfl
            | true =>
              unfold slip0 at hz ⊢
              have hcome := spec_come_eq up ks (sl.eraseIdx j.toNat) lo (rdOf ((0, 0, 0, 0) : SLIP) sl j) hz.2.2.1.1 (by rw [hlen]; exact hz.2.2.1.2) hu.2 (h.at hz.2.2.1.1 (by rw [hlen]; exact hz.2.2.1.2)).ord.fit (Nat.le_trans erase_len hm)
              rw [cond_true, cond_true, hcome, Option.bind_some]
theorem CInv.upT {T T' : Nat} {up : List Int} {ks : List KEEP} {sl : List SLIP} {lo : List Int} (h : CInv T up ks sl lo) (hT : T ≤ T') : CInv T' up ks sl lo := ⟨h.tree, h.len, fun x hx => (h.keep x hx).up hT, h.slips, h.many, Nat.le_trans h.sent hT⟩
theorem step_inv {T : Nat} {up : List Int} {ks : List KEEP} {sl : List SLIP} {lo : List Int} (kd nd id j : Int) (h : CInv T up ks sl lo) (hT : T ≤ 1000) :
    CInv (T + 1) up (stepP up ks sl lo kd nd id j).2.1 (stepP up ks sl lo kd nd id j).2.2.1 (stepP up ks sl lo kd nd id j).2.2.2 := by
  have hu := tree_len h.tree
  have hl := h.len
  have hm := h.many
  have hse := h.sent
  have hsame : CInv (T + 1) up ks sl lo := h.upT (Nat.le_succ _)
  have hpos : (0 : Int) < (ks.length : Int) := by omega
  have hlen : (ks.length : Int) = (up.length : Int) := by omega
  unfold stepP
  cases h1 : kd == 1 with
  | true =>
    rw [cond_true]
    cases hid : decide (0 ≤ id) && decide (id < 6) with
    | false => exact hsame
    | true =>
      cases hh : hasI (rdOf keep0 ks 0).1 id with
      | true => exact hsame
      | false => exact ⟨h.tree, by show (setI ks _ _).length = _; rw [setI_len]; exact hl, h.give hT (Int.le_refl 0) hpos (two_dec hid) hh, h.slips, h.many, by show (lo ++ [id]).length ≤ _; rw [List.length_append, List.length_singleton]; omega⟩
  | false =>
    rw [cond_false]
    cases h2 : kd == 2 with
    | true =>
      rw [cond_true]
      cases hnd : decide (0 ≤ nd) && decide (nd < (up.length : Int)) with
      | false => exact hsame
      | true =>
        obtain ⟨n0, n1⟩ := two_dec hnd
        cases hj : decide (0 ≤ j) && decide (j < ((rdOf keep0 ks nd).2.1.length : Int)) with
        | false => exact hsame
        | true =>
          obtain ⟨j0, j1⟩ := two_dec hj
          have hk := h.at n0 (by omega)
          have hin := rd_in ((0, 0) : Int × Int) (rdOf keep0 ks nd).2.1 j j0 j1
          have hid := hk.ord.hid _ hin
          have hch := hk.ch _ hin
          have hids := hk.ord.ids _ hid.1
          refine ⟨h.tree, hl, hsame.keep, fun y hy => ?_, ack_len hm, hsame.sent⟩
          rcases ack_mem hy with hy | rfl
          · exact h.slips y hy
          · exact ⟨.inl rfl, ⟨n0, n1⟩, ⟨hid.2.1, hch⟩, hids⟩
    | false =>
      rw [cond_false]
      cases hj : decide (0 ≤ j) && decide (j < (sl.length : Int)) with
      | false => exact hsame
      | true =>
        obtain ⟨j0, j1⟩ := two_dec hj
        have hz : SInv (up.length : Int) (rdOf slip0 sl j) := h.slips _ (rd_in slip0 sl j j0 j1)
        have her : ∀ z ∈ sl.eraseIdx j.toNat, SInv (up.length : Int) z := fun z hz => h.slips z ((List.eraseIdx_sublist sl j.toNat).subset hz)
        rw [Bool.not_true, Bool.false_or]
        cases hkk : (kd == 3 || kd == 4 || kd == 5) with
        | false => exact hsame
        | true =>
          rw [Bool.not_true, cond_false]
          cases h5 : kd == 5 with
          | true =>
            refine ⟨h.tree, hl, hsame.keep, fun y hy => ?_, ack_len hm, hsame.sent⟩
            rcases ack_mem hy with hy | rfl
            · exact h.slips y hy
            · exact hz
          | false =>
            have hi : CInv T up ks (sl.eraseIdx j.toNat) lo := ⟨h.tree, hl, h.keep, her, Nat.le_trans erase_len hm, hse⟩
            cases h3 : kd == 3 with
            | true => exact hi.come hT hz
            | false => exact hi.upT (Nat.le_succ _)
theorem step_false {up : List Int} {ks : List KEEP} {sl : List SLIP} {lo : List Int} {kd nd id j : Int} (h : (stepP up ks sl lo kd nd id j).1 = false) : stepP up ks sl lo kd nd id j = (false, ks, sl, lo) := by
  have hack : ∀ z, decide (sl.length < 30) = false → ackS sl z = sl := fun z hd => by unfold ackS; rw [hd]; rfl
  unfold stepP at *
  cases h1 : kd == 1 with
  | true =>
    rw [h1, cond_true] at h
    rw [cond_true]
    cases hc : (!(decide (0 ≤ id) && decide (id < 6)) || hasI (rdOf keep0 ks 0).1 id) with
    | true => rfl
    | false => rw [hc] at h; cases h
  | false =>
    rw [h1, cond_false] at h
    rw [cond_false]
    cases h2 : kd == 2 with
    | true =>
      rw [h2, cond_true] at h
      rw [cond_true]
      cases hc : (!(decide (0 ≤ nd) && decide (nd < (up.length : Int))) || !(decide (0 ≤ j) && decide (j < ((rdOf keep0 ks nd).2.1.length : Int)))) with
      | true => rfl
      | false =>
        rw [hc, cond_false] at h
        have h : decide (sl.length < 30) = false := h
        rw [cond_false, hack _ h, h]
    | false =>
      rw [h2, cond_false] at h
      rw [cond_false]
      cases hc : (!(decide (0 ≤ j) && decide (j < (sl.length : Int))) || !(kd == 3 || kd == 4 || kd == 5)) with
      | true => rfl
      | false =>
        rw [hc, cond_false] at h
        rw [cond_false]
        cases h5 : kd == 5 with
        | true =>
          rw [h5, cond_true] at h
          have h : decide (sl.length < 30) = false := h
          rw [cond_true, hack _ h, h]
        | false =>
          rw [h5, cond_false] at h
          cases h3 : kd == 3 with
          | true => rw [h3] at h; cases h
          | false => rw [h3] at h; cases h
/-! ### many steps -/
abbrev STEP := Int × Int × Int × Int
abbrev CST := List KEEP × List SLIP × List Int × List Bool
def playGo (up : List Int) : List STEP → CST → CST
  | [], s => s
  | z :: r, s => playGo up r ((stepP up s.1 s.2.1 s.2.2.1 z.1 z.2.1 z.2.2.1 z.2.2.2).2.1, (stepP up s.1 s.2.1 s.2.2.1 z.1 z.2.1 z.2.2.1 z.2.2.2).2.2.1, (stepP up s.1 s.2.1 s.2.2.1 z.1 z.2.1 z.2.2.1 z.2.2.2).2.2.2, s.2.2.2 ++ [(stepP up s.1 s.2.1 s.2.2.1 z.1 z.2.1 z.2.2.1 z.2.2.2).1])
theorem impl_play_run (up : List Int) (l : List STEP) (k : Nat) (s : CST) (hk : l.length < k) (hl : l.length ≤ 200) (hs : CInv 0 up s.1 s.2.1 s.2.2.1) (hd : s.2.2.2 = []) :
    iter (impl_PlayCustody.s0 k) k (l, (l.length : Int), 0, s.2.2.2, up, s.1, s.2.1, s.2.2.1) = some (true, up, (playGo up l s).1, (playGo up l s).2.1, (playGo up l s).2.2.1, (playGo up l s).2.2.2) := by
  refine (scan_run (step := impl_PlayCustody.s0 k) (l.length : Int) (fun i (s : CST) => (l, (l.length : Int), i, s.2.2.2, up, s.1, s.2.1, s.2.2.1)) (fun i s => some (true, up, (playGo up (l.drop i.toNat) s).1, (playGo up (l.drop i.toNat) s).2.1, (playGo up (l.drop i.toNat) s).2.2.1, (playGo up (l.drop i.toNat) s).2.2.2)) (fun i s => CInv i.toNat up s.1 s.2.1 s.2.2.1 ∧ (s.2.2.2.length : Int) ≤ i) ?_ k 0 s (Int.le_refl _) (by omega) ⟨hs, by rw [hd]; simp⟩ (by omega)).trans (by simp)
  intro rec i s h0 h1 hJ ih
  obtain ⟨hc, hn⟩ := hJ
  unfold impl_PlayCustody.s0
  simp only []
  by_cases hlt : i < (l.length : Int)
  · have hinv := step_inv (rdOf ((0, 0, 0, 0) : STEP) l i).1 (rdOf ((0, 0, 0, 0) : STEP) l i).2.1 (rdOf ((0, 0, 0, 0) : STEP) l i).2.2.1 (rdOf ((0, 0, 0, 0) : STEP) l i).2.2.2 hc (by omega)
    rw [bif_dec_t hlt, grd_dec h0, grd_dec hlt, impl_step_eq (T := i.toNat) up s.1 s.2.1 s.2.2.1 _ _ _ _ hc (by omega), Option.bind_some]
    simp only []
    rw [grd_dec (by omega), w64_id (n := i + 1) (by omega) (by omega), dropI (0, 0, 0, 0) l i h0 hlt, playGo]
    refine ih hlt (_, _, _, s.2.2.2 ++ [_]) ⟨?_, ?_⟩
    · rw [show (i + 1).toNat = i.toNat + 1 by omega]
      exact hinv
    · simp only [List.length_append, List.length_singleton]
      omega
  · rw [bif_dec_f hlt, dropE l i (by omega), playGo]
theorem spec_play_run (up : List Int) (l : List STEP) (k : Nat) (s : CST) (hk : l.length < k) (hl : l.length ≤ 200) (hs : CInv 0 up s.1 s.2.1 s.2.2.1) (hd : s.2.2.2 = []) :
    iter (spec_PlayCustody.s0 k) k (l, (l.length : Int), 0, up, s.2.2.2, s.1, s.2.1, s.2.2.1) = some (true, up, (playGo up l s).1, (playGo up l s).2.1, (playGo up l s).2.2.1, (playGo up l s).2.2.2) := by
  refine (scan_run (step := spec_PlayCustody.s0 k) (l.length : Int) (fun i (s : CST) => (l, (l.length : Int), i, up, s.2.2.2, s.1, s.2.1, s.2.2.1)) (fun i s => some (true, up, (playGo up (l.drop i.toNat) s).1, (playGo up (l.drop i.toNat) s).2.1, (playGo up (l.drop i.toNat) s).2.2.1, (playGo up (l.drop i.toNat) s).2.2.2)) (fun i s => CInv i.toNat up s.1 s.2.1 s.2.2.1 ∧ (s.2.2.2.length : Int) ≤ i) ?_ k 0 s (Int.le_refl _) (by omega) ⟨hs, by rw [hd]; simp⟩ (by omega)).trans (by simp)
  intro rec i s h0 h1 hJ ih
  obtain ⟨hc, hn⟩ := hJ
  have hu := tree_len hc.tree
  have hown := spec_own_eq up s.1 s.2.1 s.2.2.1 (by omega) (by have := hc.len; omega) (fun x hx => (hc.keep x hx).ord.fit) (by have := hc.many; omega) (by have := hc.sent; omega)
  unfold spec_PlayCustody.s0
  simp only []
  by_cases hlt : i < (l.length : Int)
  · have hinv := step_inv (rdOf ((0, 0, 0, 0) : STEP) l i).1 (rdOf ((0, 0, 0, 0) : STEP) l i).2.1 (rdOf ((0, 0, 0, 0) : STEP) l i).2.2.1 (rdOf ((0, 0, 0, 0) : STEP) l i).2.2.2 hc (by omega)
    rw [bif_dec_t hlt, grd_dec h0, grd_dec hlt, hown, Option.bind_some]
    simp only []
    rw [spec_step_eq (T := i.toNat) up s.1 s.2.1 s.2.2.1 _ _ _ _ hc (by omega), Option.bind_some]
    simp only []
    rw [grd_dec (by omega), grd_dec (by omega), w64_id (n := i + 1) (by omega) (by omega), dropI (0, 0, 0, 0) l i h0 hlt, playGo]
    have hgo := ih hlt ((stepP up s.1 s.2.1 s.2.2.1 (rdOf ((0, 0, 0, 0) : STEP) l i).1 (rdOf ((0, 0, 0, 0) : STEP) l i).2.1 (rdOf ((0, 0, 0, 0) : STEP) l i).2.2.1 (rdOf ((0, 0, 0, 0) : STEP) l i).2.2.2).2.1, (stepP up s.1 s.2.1 s.2.2.1 (rdOf ((0, 0, 0, 0) : STEP) l i).1 (rdOf ((0, 0, 0, 0) : STEP) l i).2.1 (rdOf ((0, 0, 0, 0) : STEP) l i).2.2.1 (rdOf ((0, 0, 0, 0) : STEP) l i).2.2.2).2.2.1, (stepP up s.1 s.2.1 s.2.2.1 (rdOf ((0, 0, 0, 0) : STEP) l i).1 (rdOf ((0, 0, 0, 0) : STEP) l i).2.1 (rdOf ((0, 0, 0, 0) : STEP) l i).2.2.1 (rdOf ((0, 0, 0, 0) : STEP) l i).2.2.2).2.2.2, s.2.2.2 ++ [(stepP up s.1 s.2.1 s.2.2.1 (rdOf ((0, 0, 0, 0) : STEP) l i).1 (rdOf ((0, 0, 0, 0) : STEP) l i).2.1 (rdOf ((0, 0, 0, 0) : STEP) l i).2.2.1 (rdOf ((0, 0, 0, 0) : STEP) l i).2.2.2).1]) ⟨by rw [show (i + 1).toNat = i.toNat + 1 by omega]; exact hinv, by simp only [List.length_append, List.length_singleton]; omega⟩
    cases hb : (stepP up s.1 s.2.1 s.2.2.1 (rdOf ((0, 0, 0, 0) : STEP) l i).1 (rdOf ((0, 0, 0, 0) : STEP) l i).2.1 (rdOf ((0, 0, 0, 0) : STEP) l i).2.2.1 (rdOf ((0, 0, 0, 0) : STEP) l i).2.2.2).1 with
    | true =>
      rw [hb] at hgo
      exact hgo
    | false =>
      rw [step_false hb] at hgo
      rw [step_false hb]
      exact hgo
  · rw [bif_dec_f hlt, hown, Option.bind_some, dropE l i (by omega), playGo]
def playR (up : List Int) (l : List STEP) : Bool × List Int × List KEEP × List SLIP × List Int × List Bool :=
  bif !treeB up then (false, [], [], [], [], []) else bif decide ((l.length : Int) > 200) then (false, [], [], [], [], [])
  else (true, up, (playGo up l (List.replicate up.length keep0, [], [], [])).1, (playGo up l (List.replicate up.length keep0, [], [], [])).2.1, (playGo up l (List.replicate up.length keep0, [], [], [])).2.2.1, (playGo up l (List.replicate up.length keep0, [], [], [])).2.2.2)
theorem new_inv {up : List Int} (ht : treeB up = true) : CInv 0 up (List.replicate up.length keep0) [] [] where
  tree := ht
  len := List.length_replicate
  keep := fun x hx => by rw [(List.mem_replicate.mp hx).2]; exact KInv.nil _
  slips := fun z hz => absurd hz List.not_mem_nil
  many := Nat.zero_le _
  sent := Nat.le_refl _
theorem impl_new_eq (up : List Int) (h : up.length ≤ 10000000) : impl_NewCustody up = some (treeB up, (bif treeB up then up else []), (bif treeB up then List.replicate up.length keep0 else [])) := by
  unfold impl_NewCustody
  rw [impl_tree_eq, Option.bind_some]
  cases ht : treeB up with
  | false => rfl
  | true =>
    have hu := tree_len ht
    unfold cloneF
    rw [Bool.not_true, cond_false, bif_dec_t (by omega), Option.bind_some, grd_self, grd_dec (by omega), grd_dec (by rw [Int.toNat_natCast]; omega), Int.toNat_natCast]
    rfl
theorem spec_new_eq (up : List Int) (h : up.length ≤ 10000000) : spec_NewCustody up = some (treeB up, (bif treeB up then up else []), (bif treeB up then List.replicate up.length keep0 else [])) := by
  unfold spec_NewCustody
  rw [spec_tree_eq up (by omega), Option.bind_some]
  cases ht : treeB up with
  | false => rfl
  | true =>
    have hu := tree_len ht
    rw [Bool.not_true, cond_false, grd_dec (by omega), grd_self, grd_dec (by omega), grd_dec (by rw [Int.toNat_natCast]; omega), Int.toNat_natCast]
    rfl
theorem impl_play_eq (up : List Int) (l : List STEP) (h : up.length ≤ 10000000) (hl : l.length ≤ 10000000) : impl_PlayCustody up l = some (playR up l) := by
  refine lim_eq (l.length + 1) fun k hk => ?_
  unfold impl_PlayCustody.g playR
  rw [impl_new_eq up h, Option.bind_some]
  simp only []
  cases ht : treeB up with
  | false => rfl
  | true =>
    rw [Bool.not_true, cond_false, cond_true, cond_true, cond_false]
    by_cases hn : (l.length : Int) > 200
    · rw [bif_dec_t hn, bif_dec_t hn]
    · rw [bif_dec_f hn, bif_dec_f hn]
      exact impl_play_run up l k (List.replicate up.length keep0, [], [], []) (by omega) (by omega) (new_inv ht) rfl
theorem spec_play_eq (up : List Int) (l : List STEP) (h : up.length ≤ 10000000) (hl : l.length ≤ 10000000) : spec_PlayCustody up l = some (playR up l) := by
  refine lim_eq (l.length + 1) fun k hk => ?_
  unfold spec_PlayCustody.g playR
  rw [spec_new_eq up h, Option.bind_some]
  simp only []
  cases ht : treeB up with
  | false => rfl
  | true =>
    rw [Bool.not_true, cond_false, cond_true, cond_true, cond_false]
    by_cases hn : (l.length : Int) > 200
    · rw [bif_dec_t hn, bif_dec_t hn]
    · rw [bif_dec_f hn, bif_dec_f hn]
      exact spec_play_run up l k (List.replicate up.length keep0, [], [], []) (by omega) (by omega) (new_inv ht) rfl
theorem playGo_inv (up : List Int) : ∀ (l : List STEP) (s : CST) (T : Nat), CInv T up s.1 s.2.1 s.2.2.1 → s.2.2.2.length ≤ T → T + l.length ≤ 1000 → CInv (T + l.length) up (playGo up l s).1 (playGo up l s).2.1 (playGo up l s).2.2.1 ∧ (playGo up l s).2.2.2.length ≤ T + l.length
  | [], s, T, h, hd, _ => ⟨h, hd⟩
  | z :: r, s, T, h, hd, hT => by
    rw [List.length_cons] at hT
    have hi := step_inv z.1 z.2.1 z.2.2.1 z.2.2.2 h (by omega)
    have hg := playGo_inv up r ((stepP up s.1 s.2.1 s.2.2.1 z.1 z.2.1 z.2.2.1 z.2.2.2).2.1, (stepP up s.1 s.2.1 s.2.2.1 z.1 z.2.1 z.2.2.1 z.2.2.2).2.2.1, (stepP up s.1 s.2.1 s.2.2.1 z.1 z.2.1 z.2.2.1 z.2.2.2).2.2.2, s.2.2.2 ++ [(stepP up s.1 s.2.1 s.2.2.1 z.1 z.2.1 z.2.2.1 z.2.2.2).1]) (T + 1) hi (by simp only [List.length_append, List.length_singleton]; omega) (by omega)
    rw [playGo, List.length_cons, show T + (r.length + 1) = T + 1 + r.length by omega]
    exact hg
/-! ### custody: marks -/
def wN (m : Nat) {α : Type} (_ : α) : Nat := m
theorem sumW_N {α : Type} (m : Nat) : ∀ (l : List α), sumW (wN m) l = l.length * m
  | [] => by simp [sumW]
  | x :: r => by rw [sumW, sumW_N m r, List.length_cons, Nat.succ_mul]; unfold wN; omega
def fB (k : Int) (_ : Bool) : Bool := Int.tmod k 3 == 0
def fI (k : Int) (_ : Int) : Int := k
def fH (k : Int) (_ : Int × Int) : Int × Int := (k, k + 1)
def fS (k : Int) (_ : SLIP) : SLIP := (k, k + 1, k + 2, k + 3)
theorem markBoolS_eq (k : Int) (l : List Bool) (h0 : 0 < k) (h1 : k + l.length ≤ 1000000000000000) (hl : l.length ≤ 10000000) : laws_markBoolS k l = some (k + l.length, marksL fB (wN 1) k l) := by
  refine lim_eq (l.length + 1) fun n hn => ?_
  unfold laws_markBoolS.g
  have := mark_run (step := laws_markBoolS.s0 n) false fB (wN 1) (fun _ => True) (fun rec k i r h0 hb hi0 hi1 hr _ => ?_) (fun rec k i r hi => ?_) l [] k n h0 (by rw [sumW_N, Nat.mul_one]; exact h1) (by simpa using hl) (fun _ _ => trivial) (by omega)
  · rw [sumW_N, Nat.mul_one] at this
    exact this
  · unfold laws_markBoolS.s0
    simp only []
    have hb : k + (1 : Int) ≤ 1000000000000000 := hb
    rw [bif_dec_t hi1, grd_dec hi0, grd_dec hi1, w64_id (by omega) (by omega), w64_id (by omega) (by omega)]
    rfl
  · unfold laws_markBoolS.s0
    simp only []
    rw [bif_dec_f (by omega)]
theorem heldBoolS_eq (k : Int) (l : List Bool) (h0 : 0 < k) (h1 : k + l.length ≤ 1000000000000000) (hl : l.length ≤ 10000000) : laws_heldBoolS (marksL fB (wN 1) k l) k = some (k + l.length) := by
  refine lim_eq (l.length + 1) fun n hn => ?_
  unfold laws_heldBoolS.g
  have := held_run (step := laws_heldBoolS.s0 n) false fB (wN 1) (fun _ => True) (fun rec a k i x h0 hb hi0 hi1 hr _ hx => ?_) (fun rec a k i hi => ?_) l [] k n h0 (by rw [sumW_N, Nat.mul_one]; exact h1) (by simpa using hl) (fun _ _ => trivial) (by omega)
  · rw [sumW_N, Nat.mul_one] at this
    exact this
  · unfold laws_heldBoolS.s0
    simp only []
    have hb : k + (1 : Int) ≤ 1000000000000000 := hb
    rw [bif_dec_t hi1, grd_dec hi0, grd_dec hi1, hx, w64_id (by omega) (by omega), w64_id (by omega) (by omega)]
    unfold fB
    rw [beq_self_eq_true]
    rfl
  · unfold laws_heldBoolS.s0
    simp only []
    rw [bif_dec_f (by omega)]
theorem markIntS_eq (k : Int) (l : List Int) (h0 : 0 < k) (h1 : k + l.length ≤ 1000000000000000) (hl : l.length ≤ 10000000) : laws_markIntS k l = some (k + l.length, marksL fI (wN 1) k l) := by
  refine lim_eq (l.length + 1) fun n hn => ?_
  unfold laws_markIntS.g
  have := mark_run (step := laws_markIntS.s0 n) 0 fI (wN 1) (fun _ => True) (fun rec k i r h0 hb hi0 hi1 hr _ => ?_) (fun rec k i r hi => ?_) l [] k n h0 (by rw [sumW_N, Nat.mul_one]; exact h1) (by simpa using hl) (fun _ _ => trivial) (by omega)
  · rw [sumW_N, Nat.mul_one] at this
    exact this
  · unfold laws_markIntS.s0
    simp only []
    have hb : k + (1 : Int) ≤ 1000000000000000 := hb
    rw [bif_dec_t hi1, grd_dec hi0, grd_dec hi1, w64_id (by omega) (by omega), w64_id (by omega) (by omega)]
    rfl
  · unfold laws_markIntS.s0
    simp only []
    rw [bif_dec_f (by omega)]
theorem heldIntS_eq (k : Int) (l : List Int) (h0 : 0 < k) (h1 : k + l.length ≤ 1000000000000000) (hl : l.length ≤ 10000000) : laws_heldIntS (marksL fI (wN 1) k l) k = some (k + l.length) := by
  refine lim_eq (l.length + 1) fun n hn => ?_
  unfold laws_heldIntS.g
  have := held_run (step := laws_heldIntS.s0 n) 0 fI (wN 1) (fun _ => True) (fun rec a k i x h0 hb hi0 hi1 hr _ hx => ?_) (fun rec a k i hi => ?_) l [] k n h0 (by rw [sumW_N, Nat.mul_one]; exact h1) (by simpa using hl) (fun _ _ => trivial) (by omega)
  · rw [sumW_N, Nat.mul_one] at this
    exact this
  · unfold laws_heldIntS.s0
    simp only []
    have hb : k + (1 : Int) ≤ 1000000000000000 := hb
    rw [bif_dec_t hi1, grd_dec hi0, grd_dec hi1, hx, w64_id (by omega) (by omega), w64_id (by omega) (by omega)]
    unfold fI
    rw [bne_self_eq_false]
    rfl
  · unfold laws_heldIntS.s0
    simp only []
    rw [bif_dec_f (by omega)]
theorem markHoldS_eq (k : Int) (l : List (Int × Int)) (h0 : 0 < k) (h1 : k + (l.length * 2 : Nat) ≤ 1000000000000000) (hl : l.length ≤ 10000000) : laws_markHoldS k l = some (k + (l.length * 2 : Nat), marksL fH (wN 2) k l) := by
  refine lim_eq (l.length + 1) fun n hn => ?_
  unfold laws_markHoldS.g
  have := mark_run (step := laws_markHoldS.s0 n) (0, 0) fH (wN 2) (fun _ => True) (fun rec k i r h0 hb hi0 hi1 hr _ => ?_) (fun rec k i r hi => ?_) l [] k n h0 (by rw [sumW_N]; exact h1) (by simpa using hl) (fun _ _ => trivial) (by omega)
  · rw [sumW_N] at this
    exact this
  · have hb : k + (2 : Int) ≤ 1000000000000000 := hb
    have e1 : w64 (k + 1) = k + 1 := w64_id (by omega) (by omega)
    have e2 : w64 (k + 1 + 1) = k + 2 := (w64_id (by omega) (by omega)).trans (by omega)
    have e5 : w64 (i + 1) = i + 1 := w64_id (by omega) (by omega)
    have hlen : ∀ y, i < ((setI r i y).length : Int) := fun y => by rw [setI_length]; exact hi1
    unfold laws_markHoldS.s0
    simp only [setI_setI, rd_setI (0, 0) r i _ hi0 hi1, bif_dec_t hi1, grd_dec hi0, grd_dec hi1, e1, e2, e5, grd_dec (hlen _)]
    rfl
  · unfold laws_markHoldS.s0
    simp only []
    rw [bif_dec_f (by omega)]
theorem heldHoldS_eq (k : Int) (l : List (Int × Int)) (h0 : 0 < k) (h1 : k + (l.length * 2 : Nat) ≤ 1000000000000000) (hl : l.length ≤ 10000000) : laws_heldHoldS (marksL fH (wN 2) k l) k = some (k + (l.length * 2 : Nat)) := by
  refine lim_eq (l.length + 1) fun n hn => ?_
  unfold laws_heldHoldS.g
  have := held_run (step := laws_heldHoldS.s0 n) (0, 0) fH (wN 2) (fun _ => True) (fun rec a k i x h0 hb hi0 hi1 hr _ hx => ?_) (fun rec a k i hi => ?_) l [] k n h0 (by rw [sumW_N]; exact h1) (by simpa using hl) (fun _ _ => trivial) (by omega)
  · rw [sumW_N] at this
    exact this
  · have hb : k + (2 : Int) ≤ 1000000000000000 := hb
    have e1 : w64 (k + 1) = k + 1 := w64_id (by omega) (by omega)
    have e2 : w64 (k + 1 + 1) = k + 2 := (w64_id (by omega) (by omega)).trans (by omega)
    have e5 : w64 (i + 1) = i + 1 := w64_id (by omega) (by omega)
    unfold laws_heldHoldS.s0
    simp only [hx]
    unfold fH
    simp only [bif_dec_t hi1, grd_dec hi0, grd_dec hi1, e1, e2, e5, bne_self_eq_false, cond_false]
    rfl
  · unfold laws_heldHoldS.s0
    simp only []
    rw [bif_dec_f (by omega)]
theorem markSlipS_eq (k : Int) (l : List SLIP) (h0 : 0 < k) (h1 : k + (l.length * 4 : Nat) ≤ 1000000000000000) (hl : l.length ≤ 10000000) : laws_markSlipS k l = some (k + (l.length * 4 : Nat), marksL fS (wN 4) k l) := by
  refine lim_eq (l.length + 1) fun n hn => ?_
  unfold laws_markSlipS.g
  have := mark_run (step := laws_markSlipS.s0 n) (0, 0, 0, 0) fS (wN 4) (fun _ => True) (fun rec k i r h0 hb hi0 hi1 hr _ => ?_) (fun rec k i r hi => ?_) l [] k n h0 (by rw [sumW_N]; exact h1) (by simpa using hl) (fun _ _ => trivial) (by omega)
  · rw [sumW_N] at this
    exact this
  · have hb : k + (4 : Int) ≤ 1000000000000000 := hb
    have e1 : w64 (k + 1) = k + 1 := w64_id (by omega) (by omega)
    have e2 : w64 (k + 1 + 1) = k + 2 := (w64_id (by omega) (by omega)).trans (by omega)
    have e3 : w64 (k + 2 + 1) = k + 3 := (w64_id (by omega) (by omega)).trans (by omega)
    have e4 : w64 (k + 3 + 1) = k + 4 := (w64_id (by omega) (by omega)).trans (by omega)
    have e5 : w64 (i + 1) = i + 1 := w64_id (by omega) (by omega)
    have hlen : ∀ y, i < ((setI r i y).length : Int) := fun y => by rw [setI_length]; exact hi1
    unfold laws_markSlipS.s0
    simp only [setI_setI, rd_setI (0, 0, 0, 0) r i _ hi0 hi1, bif_dec_t hi1, grd_dec hi0, grd_dec hi1, e1, e2, e3, e4, e5, grd_dec (hlen _)]
    rfl
  · unfold laws_markSlipS.s0
    simp only []
    rw [bif_dec_f (by omega)]
theorem heldSlipS_eq (k : Int) (l : List SLIP) (h0 : 0 < k) (h1 : k + (l.length * 4 : Nat) ≤ 1000000000000000) (hl : l.length ≤ 10000000) : laws_heldSlipS (marksL fS (wN 4) k l) k = some (k + (l.length * 4 : Nat)) := by
  refine lim_eq (l.length + 1) fun n hn => ?_
  unfold laws_heldSlipS.g
  have := held_run (step := laws_heldSlipS.s0 n) (0, 0, 0, 0) fS (wN 4) (fun _ => True) (fun rec a k i x h0 hb hi0 hi1 hr _ hx => ?_) (fun rec a k i hi => ?_) l [] k n h0 (by rw [sumW_N]; exact h1) (by simpa using hl) (fun _ _ => trivial) (by omega)
  · rw [sumW_N] at this
    exact this
  · have hb : k + (4 : Int) ≤ 1000000000000000 := hb
    have e1 : w64 (k + 1) = k + 1 := w64_id (by omega) (by omega)
    have e2 : w64 (k + 1 + 1) = k + 2 := (w64_id (by omega) (by omega)).trans (by omega)
    have e3 : w64 (k + 2 + 1) = k + 3 := (w64_id (by omega) (by omega)).trans (by omega)
    have e4 : w64 (k + 3 + 1) = k + 4 := (w64_id (by omega) (by omega)).trans (by omega)
    have e5 : w64 (i + 1) = i + 1 := w64_id (by omega) (by omega)
    unfold laws_heldSlipS.s0
    simp only [hx]
    unfold fS
    simp only [bif_dec_t hi1, grd_dec hi0, grd_dec hi1, e1, e2, e3, e4, e5, bne_self_eq_false, cond_false]
    rfl
  · unfold laws_heldSlipS.s0
    simp only []
    rw [bif_dec_f (by omega)]
theorem markCusStepS_eq (k : Int) (l : List STEP) (h0 : 0 < k) (h1 : k + (l.length * 4 : Nat) ≤ 1000000000000000) (hl : l.length ≤ 10000000) : laws_markCusStepS k l = some (k + (l.length * 4 : Nat), marksL fS (wN 4) k l) := by
  refine lim_eq (l.length + 1) fun n hn => ?_
  unfold laws_markCusStepS.g
  have := mark_run (step := laws_markCusStepS.s0 n) (0, 0, 0, 0) fS (wN 4) (fun _ => True) (fun rec k i r h0 hb hi0 hi1 hr _ => ?_) (fun rec k i r hi => ?_) l [] k n h0 (by rw [sumW_N]; exact h1) (by simpa using hl) (fun _ _ => trivial) (by omega)
  · rw [sumW_N] at this
    exact this
  · have hb : k + (4 : Int) ≤ 1000000000000000 := hb
    have e1 : w64 (k + 1) = k + 1 := w64_id (by omega) (by omega)
    have e2 : w64 (k + 1 + 1) = k + 2 := (w64_id (by omega) (by omega)).trans (by omega)
    have e3 : w64 (k + 2 + 1) = k + 3 := (w64_id (by omega) (by omega)).trans (by omega)
    have e4 : w64 (k + 3 + 1) = k + 4 := (w64_id (by omega) (by omega)).trans (by omega)
    have e5 : w64 (i + 1) = i + 1 := w64_id (by omega) (by omega)
    have hlen : ∀ y, i < ((setI r i y).length : Int) := fun y => by rw [setI_length]; exact hi1
    unfold laws_markCusStepS.s0
    simp only [setI_setI, rd_setI (0, 0, 0, 0) r i _ hi0 hi1, bif_dec_t hi1, grd_dec hi0, grd_dec hi1, e1, e2, e3, e4, e5, grd_dec (hlen _)]
    rfl
  · unfold laws_markCusStepS.s0
    simp only []
    rw [bif_dec_f (by omega)]
theorem toCusStepS_eq (l : List STEP) (h : l.length ≤ 10000000) : laws_toCusStepS l = some l := by
  refine lim_eq (l.length + 1) fun k hk => ?_
  unfold laws_toCusStepS.g
  rw [grd_self, grd_dec (by omega), grd_dec (by omega)]
  refine to_loop (step := laws_toCusStepS.s0 k) (0, 0, 0, 0) (0, 0, 0, 0) l (fun i r => (l, i, r)) ?_ ?_ k (by omega)
  · intro rec i r h0 h1 hr _
    unfold laws_toCusStepS.s0 laws_toCusStep
    simp only []
    rw [bif_dec_t h1, grd_dec h0, grd_dec h1, Option.bind_some]
    change grd _ (grd _ _) = _
    rw [grd_dec h0, grd_dec (by omega), w64_id (by omega) (by omega)]
  · intro rec r
    unfold laws_toCusStepS.s0
    simp only []
    rw [bif_dec_f (Int.lt_irrefl _)]
theorem eqCusStepS_self (l : List STEP) (h : l.length ≤ 10000000) : laws_eqCusStepS l l = some true := by
  refine lim_eq (l.length + 1) fun k hk => ?_
  unfold laws_eqCusStepS.g
  rw [bne_int, decide_eq_true rfl]
  refine (all_loop (step := laws_eqCusStepS.s0 k) (0, 0, 0, 0) l (fun _ => true) (some true) (some false) (fun i => (l, l, i)) ?_ ?_ k (by omega)).trans (by rw [all_true]; rfl)
  · intro rec i h0 h1 _
    unfold laws_eqCusStepS.s0 laws_eqCusStep
    simp only [bif_dec_t h1, grd_dec h0, grd_dec h1, bne_self_eq_false, beq_self_eq_true, cond_false, cond_true, Option.bind_some, Bool.not_true]
    rw [w64_id (by omega) (by omega)]
  · intro rec
    unfold laws_eqCusStepS.s0
    simp only []
    rw [bif_dec_f (Int.lt_irrefl _)]
theorem eqBoolS_self (l : List Bool) (h : l.length ≤ 10000000) : laws_eqBoolS l l = some true := by
  refine lim_eq (l.length + 1) fun k hk => ?_
  unfold laws_eqBoolS.g
  rw [bne_int, decide_eq_true rfl]
  refine (all_loop (step := laws_eqBoolS.s0 k) false l (fun _ => true) (some true) (some false) (fun i => (l, l, i)) ?_ ?_ k (by omega)).trans (by rw [all_true]; rfl)
  · intro rec i h0 h1 _
    unfold laws_eqBoolS.s0
    simp only [bif_dec_t h1, grd_dec h0, grd_dec h1, bne_self_eq_false, beq_self_eq_true, cond_false, cond_true, Option.bind_some, Bool.not_true]
    rw [w64_id (by omega) (by omega)]
  · intro rec
    unfold laws_eqBoolS.s0
    simp only []
    rw [bif_dec_f (Int.lt_irrefl _)]
def fK (k : Int) (x : KEEP) : KEEP := (marksL fI (wN 1) k x.1, marksL fH (wN 2) (k + x.1.length) x.2.1, marksL fI (wN 1) (k + x.1.length + (x.2.1.length * 2 : Nat)) x.2.2)
def wK (x : KEEP) : Nat := x.1.length + x.2.1.length * 2 + x.2.2.length
def smK (x : KEEP) : Prop := x.1.length ≤ 10000000 ∧ x.2.1.length ≤ 10000000 ∧ x.2.2.length ≤ 10000000
theorem markKeeperS_eq (k : Int) (l : List KEEP) (h0 : 0 < k) (h1 : k + sumW wK l ≤ 1000000000000000) (hl : l.length ≤ 10000000) (hx : ∀ x ∈ l, smK x) : laws_markKeeperS k l = some (k + sumW wK l, marksL fK wK k l) := by
  refine lim_eq (l.length + 1) fun n hn => ?_
  unfold laws_markKeeperS.g
  refine mark_run (step := laws_markKeeperS.s0 n) ([], [], []) fK wK smK (fun rec k i r h0 hb hi0 hi1 hr hx => ?_) (fun rec k i r hi => ?_) l [] k n h0 h1 (by simpa using hl) hx (by omega)
  · obtain ⟨x1, x2, x3⟩ := hx
    generalize hX : rdOf (([], [], []) : KEEP) r i = x at *
    have hw : ((wK x : Nat) : Int) = x.1.length + (x.2.1.length * 2 : Nat) + x.2.2.length := by unfold wK; omega
    have e5 : w64 (i + 1) = i + 1 := w64_id (by omega) (by omega)
    have hlen : ∀ y, i < ((setI r i y).length : Int) := fun y => by rw [setI_length]; exact hi1
    unfold laws_markKeeperS.s0
    simp only [hX, setI_setI, rd_setI ([], [], []) r i _ hi0 hi1, bif_dec_t hi1, grd_dec hi0, grd_dec hi1, e5, grd_dec (hlen _), markIntS_eq k x.1 h0 (by omega) x1, Option.bind_some, markHoldS_eq (k + x.1.length) x.2.1 (by omega) (by omega) x2, markIntS_eq (k + x.1.length + (x.2.1.length * 2 : Nat)) x.2.2 (by omega) (by omega) x3]
    rw [hw, show k + ((x.1.length : Int) + (x.2.1.length * 2 : Nat) + x.2.2.length) = k + x.1.length + (x.2.1.length * 2 : Nat) + x.2.2.length by omega]
    rfl
  · unfold laws_markKeeperS.s0
    simp only []
    rw [bif_dec_f (by omega)]
theorem heldKeeperS_eq (k : Int) (l : List KEEP) (h0 : 0 < k) (h1 : k + sumW wK l ≤ 1000000000000000) (hl : l.length ≤ 10000000) (hx : ∀ x ∈ l, smK x) : laws_heldKeeperS (marksL fK wK k l) k = some (k + sumW wK l) := by
  refine lim_eq (l.length + 1) fun n hn => ?_
  unfold laws_heldKeeperS.g
  refine held_run (step := laws_heldKeeperS.s0 n) ([], [], []) fK wK smK (fun rec a k i x h0 hb hi0 hi1 hr hx hrd => ?_) (fun rec a k i hi => ?_) l [] k n h0 h1 (by simpa using hl) hx (by omega)
  · obtain ⟨x1, x2, x3⟩ := hx
    have hw : ((wK x : Nat) : Int) = x.1.length + (x.2.1.length * 2 : Nat) + x.2.2.length := by unfold wK; omega
    have e5 : w64 (i + 1) = i + 1 := w64_id (by omega) (by omega)
    unfold laws_heldKeeperS.s0
    simp only [hrd]
    unfold fK
    simp only [bif_dec_t hi1, grd_dec hi0, grd_dec hi1, e5, heldIntS_eq k x.1 h0 (by omega) x1, Option.bind_some, heldHoldS_eq (k + x.1.length) x.2.1 (by omega) (by omega) x2, heldIntS_eq (k + x.1.length + (x.2.1.length * 2 : Nat)) x.2.2 (by omega) (by omega) x3]
    rw [bif_dec_f (by omega), bif_dec_f (by omega), bif_dec_f (by omega), hw, show k + ((x.1.length : Int) + (x.2.1.length * 2 : Nat) + x.2.2.length) = k + x.1.length + (x.2.1.length * 2 : Nat) + x.2.2.length by omega]
  · unfold laws_heldKeeperS.s0
    simp only []
    rw [bif_dec_f (by omega)]
theorem wK_sum (l : List KEEP) (h : l.length ≤ 1000000) (hx : ∀ x ∈ l, smK x) : sumW wK l ≤ 40000000000000 := by
  have h1 := sumW_le wK 40000000 l (fun x hm => by obtain ⟨x1, x2, x3⟩ := hx x hm; unfold wK; omega)
  have h2 : l.length * 40000000 ≤ 1000000 * 40000000 := Nat.mul_le_mul_right _ h
  omega
/-- small -/
structure CSm (up : List Int) (ks : List KEEP) (sl : List SLIP) (lo : List Int) : Prop where
  u : up.length ≤ 10000000
  k : ks.length ≤ 1000000
  kk : ∀ x ∈ ks, smK x
  s : sl.length ≤ 10000000
  l : lo.length ≤ 10000000
theorem mark_cus {up : List Int} {ks : List KEEP} {sl : List SLIP} {lo : List Int} (h : CSm up ks sl lo) : ∃ (K : Int) (up' : List Int) (ks' : List KEEP) (sl' : List SLIP) (lo' : List Int), 0 < K ∧ K ≤ 50000000000000 ∧ laws_markCustody 1 up ks sl lo = some (K, up', ks', sl', lo') ∧ laws_heldCustody up' ks' sl' lo' 1 = some K := by
  have hw := wK_sum ks h.k h.kk
  have hu := h.u
  have hs := h.s
  have hl := h.l
  have hk := h.k
  have e1 : (0 : Int) < 1 := by decide
  have m1 := markIntS_eq 1 up e1 (by omega) hu
  have m2 := markKeeperS_eq (1 + up.length) ks (by omega) (by omega) (by omega) h.kk
  have m3 := markSlipS_eq (1 + up.length + sumW wK ks) sl (by omega) (by omega) hs
  have m4 := markIntS_eq (1 + up.length + sumW wK ks + (sl.length * 4 : Nat)) lo (by omega) (by omega) hl
  have n1 := heldIntS_eq 1 up e1 (by omega) hu
  have n2 := heldKeeperS_eq (1 + up.length) ks (by omega) (by omega) (by omega) h.kk
  have n3 := heldSlipS_eq (1 + up.length + sumW wK ks) sl (by omega) (by omega) hs
  have n4 := heldIntS_eq (1 + up.length + sumW wK ks + (sl.length * 4 : Nat)) lo (by omega) (by omega) hl
  refine ⟨1 + up.length + sumW wK ks + (sl.length * 4 : Nat) + lo.length, marksL fI (wN 1) 1 up, marksL fK wK (1 + up.length) ks, marksL fS (wN 4) (1 + up.length + sumW wK ks) sl, marksL fI (wN 1) (1 + up.length + sumW wK ks + (sl.length * 4 : Nat)) lo, by omega, by omega, ?_, ?_⟩
  · unfold laws_markCustody
    rw [m1, Option.bind_some]
    simp only []
    rw [m2, Option.bind_some]
    simp only []
    rw [m3, Option.bind_some]
    simp only []
    rw [m4, Option.bind_some]
  · unfold laws_heldCustody
    rw [n1, Option.bind_some, bif_dec_f (by omega), n2, Option.bind_some, bif_dec_f (by omega), n3, Option.bind_some, bif_dec_f (by omega), n4, Option.bind_some, bif_dec_f (by omega)]
theorem eqCustody_self {up : List Int} {ks : List KEEP} {sl : List SLIP} {lo : List Int} (h : CSm up ks sl lo) : laws_eqCustody up ks sl lo up ks sl lo = some true := by
  unfold laws_eqCustody
  have hk := h.k
  rw [eqIntS_self up h.u, Option.bind_some, Bool.not_true, cond_false, eqKeeperS_self ks (by omega) h.kk, Option.bind_some, Bool.not_true, cond_false, eqSlipS_self sl h.s, Option.bind_some, Bool.not_true, cond_false, eqIntS_self lo h.l, Option.bind_some, Bool.not_true, cond_false]
theorem play_sm (up : List Int) (l : List STEP) : CSm (playR up l).2.1 (playR up l).2.2.1 (playR up l).2.2.2.1 (playR up l).2.2.2.2.1 ∧ (playR up l).2.2.2.2.2.length ≤ 10000000 := by
  have hnil : CSm [] [] [] [] := ⟨by simp, by simp, fun x hx => absurd hx List.not_mem_nil, by simp, by simp⟩
  unfold playR
  cases ht : treeB up with
  | false => exact ⟨hnil, by simp⟩
  | true =>
    rw [Bool.not_true, cond_false]
    by_cases hn : (l.length : Int) > 200
    · rw [bif_dec_t hn]; exact ⟨hnil, by simp⟩
    · rw [bif_dec_f hn]
      obtain ⟨h1, h2⟩ := playGo_inv up l (List.replicate up.length keep0, [], [], []) 0 (new_inv ht) (Nat.le_refl _) (by omega)
      have hu := tree_len ht
      refine ⟨⟨by simp only []; omega, by simp only []; have := h1.len; omega, fun x hx => ?_, by simp only []; have := h1.many; omega, by simp only []; have := h1.sent; omega⟩, by simp only []; omega⟩
      obtain ⟨f1, f2, f3⟩ := (h1.keep x hx).ord.fit
      exact ⟨by omega, by omega, by omega⟩
theorem pure_FnExactPlayCustody (up : List Int) (l : List STEP) (hu : up.length ≤ 9223372036854775807) (hl : l.length ≤ 9223372036854775807) : laws_FnExactPlayCustody up l = some true := by
  unfold laws_FnExactPlayCustody
  by_cases c0 : (up.length : Int) > 1048576
  · rw [bif_dec_t c0]
  · rw [bif_dec_f c0]
    unfold laws_szCusStepS
    rw [w64_id (by omega) (by omega)]
    by_cases c1 : (1048576 : Int) - (l.length : Int) < 0
    · rw [bif_dec_t c1]; rfl
    · rw [bif_dec_f c1, Option.bind_some, bif_dec_f c1]
      obtain ⟨hR, hR2⟩ := play_sm up l
      have s1 := markIntS_eq 1 up (by decide) (by omega) (by omega)
      have s2 := markCusStepS_eq (1 + up.length) l (by omega) (by omega) (by omega)
      simp only [toIntS_eq up (by omega), toCusStepS_eq l (by omega), Option.bind_some, spec_play_eq up l (by omega) (by omega), impl_play_eq up l (by omega) (by omega), eqIntS_self up (by omega), eqCusStepS_self l (by omega), s1, s2, bif_dec_f (show ¬ 1 + (up.length : Int) + (l.length * 4 : Nat) < 0 by omega)]
      generalize playR up l = R at hR hR2 ⊢
      obtain ⟨ok, u', ks, sl, lo, did⟩ := R
      have hR : CSm u' ks sl lo := hR
      have hR2 : did.length ≤ 10000000 := hR2
      obtain ⟨K, u1, k1, z1, o1, k2, k3, m1, m2⟩ := mark_cus hR
      simp only [eqCustody_self hR, eqBoolS_self did hR2, Option.bind_some, Bool.not_true, cond_false, beq_self_eq_true, m1, m2, markBoolS_eq K did k2 (by omega) hR2, heldBoolS_eq K did k2 (by omega) hR2, bne_self_eq_false, bif_dec_f (show ¬ K < 0 by omega), bif_dec_f (show ¬ K + (did.length : Int) < 0 by omega)]
theorem Pure.FnExactPlayCustody (a0 : List Int) (a1 : List (Int × Int × Int × Int)) (ok0 : okTy (.slice 3 (.int .i64)) a0) (ok1 : okTy (.slice 94 (.pair (.int .i64) (.pair (.int .i64) (.pair (.int .i64) (.int .i64))))) a1) : laws_FnExactPlayCustody a0 a1 = some true := by
  have h0 : a0.length ≤ maxLen := ok0.1
  have h1 : a1.length ≤ maxLen := ok1.1
  unfold maxLen at h0 h1
  exact pure_FnExactPlayCustody a0 a1 (by omega) (by omega)
end Go.Eng
