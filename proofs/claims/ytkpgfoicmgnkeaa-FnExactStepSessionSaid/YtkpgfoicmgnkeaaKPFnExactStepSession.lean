/- FnExactStepSession: the law's pure statement: what the program's functions compute, in lists and numbers alone. -/
import Derived.Test.YtkpgfoicmgnkeaaKD
import Derived.Test.YtkpgfoicmgnkeaaKT
set_option linter.unusedVariables false
set_option linter.unusedSimpArgs false
namespace Go.Eng
open Go Go.RowKit Go.Proofs.YtkpgfoicmgnkeaaW.PrintWords
/-! ### words for the pure laws -/
theorem w64_id {n : Int} (h0 : -9223372036854775808 ≤ n) (h1 : n ≤ 9223372036854775807) : w64 n = n := by
  show IntKind.i64.wrap n = n
  rw [IntKind.wrap_i64]
  omega
theorem grd_of {ρ : Type} {c : Bool} {x : Option ρ} (h : c = true) : grd c x = x := by rw [h]; rfl
theorem dropI {α : Type} (d : α) (xs : List α) (i : Int) (h0 : 0 ≤ i) (h1 : i < (xs.length : Int)) : xs.drop i.toNat = rdOf d xs i :: xs.drop (i + 1).toNat := by
  have h : i.toNat < xs.length := by omega
  rw [List.drop_eq_getElem_cons h, show (i + 1).toNat = i.toNat + 1 by omega]
  unfold rdOf
  rw [List.getD_eq_getElem?_getD, List.getElem?_eq_getElem h]
  rfl
theorem dropE {α : Type} (xs : List α) (i : Int) (h1 : (xs.length : Int) ≤ i) : xs.drop i.toNat = [] := List.drop_eq_nil_of_le (by omega)
theorem bne_int (a b : Nat) : ((a : Int) != (b : Int)) = !(decide (a = b)) := by
  by_cases h : a = b
  · subst h; simp
  · have : (a : Int) ≠ b := by omega
    simp [h, this]
theorem beq_self_int (a : Int) : (a == a) = true := by simp
theorem grd_self {ρ : Type} (a : Int) (x : Option ρ) : grd (a == a) x = x := grd_of (by simp)
theorem grd_dec {ρ : Type} {p : Prop} [Decidable p] (h : p) (x : Option ρ) : grd (decide p) x = x := grd_of (decide_eq_true h)
theorem bif_dec_t {α : Type} {p : Prop} [Decidable p] (h : p) (x y : α) : (bif decide p then x else y) = x := by rw [decide_eq_true h]; rfl
theorem bif_dec_f {α : Type} {p : Prop} [Decidable p] (h : ¬ p) (x y : α) : (bif decide p then x else y) = y := by rw [decide_eq_false h]; rfl
/-- A loop over an index. -/
theorem scan_run {ε σ ρ : Type} {step : (ε → Option ρ) → ε → Option ρ} (n : Int) (mk : Int → σ → ε) (R : Int → σ → Option ρ) (J : Int → σ → Prop)
    (h : ∀ rec i s, 0 ≤ i → i ≤ n → J i s → (i < n → ∀ s', J (i + 1) s' → rec (mk (i + 1) s') = R (i + 1) s') → step rec (mk i s) = R i s) :
    ∀ k i s, 0 ≤ i → i ≤ n → J i s → (n - i).toNat < k → iter step k (mk i s) = R i s
  | 0, _, _, _, _, _, hk => absurd hk (Nat.not_lt_zero _)
  | k + 1, i, s, h0, h1, hJ, hk => h _ i s h0 h1 hJ (fun hlt s' hJ' => scan_run n mk R J h k (i + 1) s' (by omega) (by omega) hJ' (by omega))
/-- A loop that asks p of each. -/
theorem all_loop {α ε ρ : Type} {step : (ε → Option ρ) → ε → Option ρ} (d : α) (xs : List α) (p : α → Bool) (K F : Option ρ) (mk : Int → ε)
    (h1 : ∀ rec i, 0 ≤ i → i < (xs.length : Int) → rdOf d xs i ∈ xs → step rec (mk i) = bif p (rdOf d xs i) then rec (mk (i + 1)) else F) (h2 : ∀ rec, step rec (mk (xs.length : Int)) = K) (k : Nat) (hk : xs.length < k) :
    iter step k (mk 0) = bif xs.all p then K else F := by
  refine scan_run (step := step) (xs.length : Int) (fun i (_ : Unit) => mk i) (fun i _ => bif (xs.drop i.toNat).all p then K else F) (fun _ _ => True) ?_ k 0 () (Int.le_refl _) (by omega) trivial (by omega)
  intro rec i _ h0 hle _ ih
  by_cases hlt : i < (xs.length : Int)
  · have hm : rdOf d xs i ∈ xs := by
      unfold rdOf
      have h : i.toNat < xs.length := by omega
      rw [List.getD_eq_getElem?_getD, List.getElem?_eq_getElem h]
      exact List.getElem_mem h
    rw [h1 rec i h0 hlt hm, dropI d xs i h0 hlt, List.all_cons, ih hlt () trivial]
    cases p (rdOf d xs i) <;> rfl
  · have : i = (xs.length : Int) := by omega
    subst this
    rw [h2 rec, dropE xs _ (Int.le_refl _)]
    rfl
/-! ### lists made over, element by element -/
theorem put_take {α : Type} (r : List α) (i : Int) (v : α) (h0 : 0 ≤ i) (h1 : i < (r.length : Int)) : (setI r i v).take (i + 1).toNat = r.take i.toNat ++ [v] := by
  unfold setI
  have hi : i.toNat < r.length := by omega
  rw [show (i + 1).toNat = i.toNat + 1 by omega, List.take_succ_eq_append_getElem (by rw [List.length_set]; exact hi), List.take_set_of_le (Nat.le_refl _), List.getElem_set_self]
theorem to_loop {α ε : Type} {step : (ε → Option (List α)) → ε → Option (List α)} (d z : α) (l : List α) (mk : Int → List α → ε)
    (h1 : ∀ rec i r, 0 ≤ i → i < (l.length : Int) → r.length = l.length → rdOf d l i ∈ l → step rec (mk i r) = rec (mk (i + 1) (setI r i (rdOf d l i)))) (h2 : ∀ rec r, step rec (mk (l.length : Int) r) = some r) (k : Nat) (hk : l.length < k) :
    iter step k (mk 0 (List.replicate ((l.length : Int)).toNat z)) = some l := by
  refine (scan_run (step := step) (l.length : Int) (fun i (r : List α) => mk i r) (fun i r => some (r.take i.toNat ++ l.drop i.toNat)) (fun _ r => r.length = l.length) ?_ k 0 _ (Int.le_refl _) (by omega) (by simp) (by omega)).trans (by simp)
  intro rec i r h0 hle hJ ih
  by_cases hlt : i < (l.length : Int)
  · have hm : rdOf d l i ∈ l := by
      unfold rdOf
      have hh : i.toNat < l.length := by omega
      rw [List.getD_eq_getElem?_getD, List.getElem?_eq_getElem hh]
      exact List.getElem_mem hh
    have hs : (setI r i (rdOf d l i)).length = l.length := by unfold setI; rw [List.length_set]; exact hJ
    rw [h1 rec i r h0 hlt hJ hm, ih hlt _ hs, put_take _ _ _ h0 (by omega), dropI d l i h0 hlt, List.append_assoc]
    rfl
  · have : i = (l.length : Int) := by omega
    subst this
    rw [h2 rec r, dropE l _ (Int.le_refl _), List.append_nil, List.take_of_length_le (by omega)]
/-! ### marks: rows written over, and what they are held against -/
def marksL {α : Type} (f : Int → α → α) (wt : α → Nat) : Int → List α → List α
  | _, [] => []
  | k, x :: r => f k x :: marksL f wt (k + wt x) r
def sumW {α : Type} (wt : α → Nat) : List α → Nat
  | [] => 0
  | x :: r => wt x + sumW wt r
theorem sumW_le {α : Type} (wt : α → Nat) (m : Nat) : ∀ (l : List α), (∀ x ∈ l, wt x ≤ m) → sumW wt l ≤ l.length * m
  | [], _ => by simp [sumW]
  | x :: r, h => by
    have h1 := h x (List.mem_cons_self ..)
    have h2 := sumW_le wt m r (fun y hy => h y (List.mem_cons_of_mem _ hy))
    unfold sumW
    rw [List.length_cons, Nat.succ_mul]
    omega
theorem rd_pre {α : Type} (d : α) (pre rest : List α) (x : α) : rdOf d (pre ++ x :: rest) (pre.length : Int) = x := by
  unfold rdOf
  rw [List.getD_eq_getElem?_getD, show ((pre.length : Int)).toNat = pre.length by omega, List.getElem?_append_right (Nat.le_refl _), Nat.sub_self]
  rfl
theorem set_pre {α : Type} (pre rest : List α) (x y : α) : setI (pre ++ x :: rest) (pre.length : Int) y = (pre ++ [y]) ++ rest := by
  unfold setI
  rw [show ((pre.length : Int)).toNat = pre.length by omega, List.set_append_right _ _ (Nat.le_refl _), Nat.sub_self, List.append_assoc]
  rfl
theorem mark_run {α : Type} {step : ((Int × Int × List α) → Option (Int × List α)) → (Int × Int × List α) → Option (Int × List α)} (d : α) (f : Int → α → α) (wt : α → Nat) (ok : α → Prop)
    (h1 : ∀ rec (k : Int) (i : Int) r, 0 < k → k + wt (rdOf d r i) ≤ 1000000000000000 → 0 ≤ i → i < (r.length : Int) → r.length ≤ 10000000 → ok (rdOf d r i) → step rec (k, i, r) = rec (k + wt (rdOf d r i), i + 1, setI r i (f k (rdOf d r i))))
    (h2 : ∀ rec (k i : Int) r, (r.length : Int) ≤ i → step rec (k, i, r) = some (k, r)) :
    ∀ (rest pre : List α) (k : Int) (n : Nat), 0 < k → k + sumW wt rest ≤ 1000000000000000 → pre.length + rest.length ≤ 10000000 → (∀ x ∈ rest, ok x) → rest.length < n →
      iter step n (k, (pre.length : Int), pre ++ rest) = some (k + sumW wt rest, pre ++ marksL f wt k rest)
  | [], pre, k, n, h0, hb, hl, hx, hn => by
    obtain ⟨m, rfl⟩ : ∃ m, n = m + 1 := ⟨n - 1, by simp at hn; omega⟩
    rw [iter, h2 _ _ _ _ (by simp)]
    simp [sumW, marksL]
  | x :: rest, pre, k, n, h0, hb, hl, hx, hn => by
    obtain ⟨m, rfl⟩ : ∃ m, n = m + 1 := ⟨n - 1, by simp at hn; omega⟩
    have hb2 : k + (wt x : Int) + (sumW wt rest : Int) ≤ 1000000000000000 := by
      have : ((sumW wt (x :: rest) : Nat) : Int) = wt x + sumW wt rest := by simp [sumW]
      omega
    rw [List.length_cons] at hl
    rw [iter, h1 _ _ _ _ h0 (by rw [rd_pre]; omega) (by omega) (by simp; omega) (by simp; omega) (by rw [rd_pre]; exact hx x (List.mem_cons_self ..)), rd_pre, set_pre]
    have ih := mark_run d f wt ok h1 h2 rest (pre ++ [f k x]) (k + wt x) m (by omega) hb2 (by simp; omega) (fun y hy => hx y (List.mem_cons_of_mem _ hy)) (by simp at hn; omega)
    rw [show (((pre ++ [f k x]).length : Nat) : Int) = (pre.length : Int) + 1 by simp] at ih
    rw [ih]
    have : k + ((sumW wt (x :: rest) : Nat) : Int) = k + wt x + sumW wt rest := by
      have : ((sumW wt (x :: rest) : Nat) : Int) = wt x + sumW wt rest := by simp [sumW]
      omega
    rw [this]
    simp [marksL]
theorem held_run {α : Type} {step : (List α × Int × Int → Option Int) → List α × Int × Int → Option Int} (d : α) (f : Int → α → α) (wt : α → Nat) (ok : α → Prop)
    (h1 : ∀ rec a (k i : Int) x, 0 < k → k + wt x ≤ 1000000000000000 → 0 ≤ i → i < (a.length : Int) → a.length ≤ 10000000 → ok x → rdOf d a i = f k x → step rec (a, k, i) = rec (a, k + wt x, i + 1))
    (h2 : ∀ rec a (k i : Int), (a.length : Int) ≤ i → step rec (a, k, i) = some k) :
    ∀ (rest pre : List α) (k : Int) (n : Nat), 0 < k → k + sumW wt rest ≤ 1000000000000000 → pre.length + rest.length ≤ 10000000 → (∀ x ∈ rest, ok x) → rest.length < n →
      iter step n (pre ++ marksL f wt k rest, k, (pre.length : Int)) = some (k + sumW wt rest)
  | [], pre, k, n, h0, hb, hl, hx, hn => by
    obtain ⟨m, rfl⟩ : ∃ m, n = m + 1 := ⟨n - 1, by simp at hn; omega⟩
    rw [iter, h2 _ _ _ _ (by simp [marksL])]
    simp [sumW]
  | x :: rest, pre, k, n, h0, hb, hl, hx, hn => by
    obtain ⟨m, rfl⟩ : ∃ m, n = m + 1 := ⟨n - 1, by simp at hn; omega⟩
    have hs : ((sumW wt (x :: rest) : Nat) : Int) = wt x + sumW wt rest := by simp [sumW]
    have hlen : ∀ (l : List α) (k : Int), (marksL f wt k l).length = l.length := by
      intro l
      induction l with
      | nil => exact fun _ => rfl
      | cons y q ih => exact fun k => by rw [marksL, List.length_cons, List.length_cons, ih]
    rw [List.length_cons] at hl
    unfold marksL
    rw [iter, h1 _ _ _ _ x h0 (by omega) (by omega) (by simp; omega) (by simp [hlen]; omega) (hx x (List.mem_cons_self ..)) (rd_pre ..)]
    have ih := held_run d f wt ok h1 h2 rest (pre ++ [f k x]) (k + wt x) m (by omega) (by omega) (by simp; omega) (fun y hy => hx y (List.mem_cons_of_mem _ hy)) (by simp at hn; omega)
    rw [show (((pre ++ [f k x]).length : Nat) : Int) = (pre.length : Int) + 1 by simp, List.append_assoc] at ih
    rw [show k + ((sumW wt (x :: rest) : Nat) : Int) = k + wt x + sumW wt rest by omega]
    exact ih
theorem marks_len {α : Type} (f : Int → α → α) (wt : α → Nat) : ∀ (l : List α) (k : Int), (marksL f wt k l).length = l.length
  | [], _ => rfl
  | x :: r, k => by rw [marksL, List.length_cons, List.length_cons, marks_len f wt r]
/-! the rows of a row that is written over, at one place -/
theorem rd_setI {α : Type} (d : α) (r : List α) (i : Int) (y : α) (h0 : 0 ≤ i) (h1 : i < (r.length : Int)) : rdOf d (setI r i y) i = y := by
  unfold rdOf setI
  rw [List.getD_eq_getElem?_getD, List.getElem?_set_self (by omega)]
  rfl
theorem setI_setI {α : Type} (r : List α) (i : Int) (y z : α) : setI (setI r i y) i z = setI r i z := by
  unfold setI
  rw [List.set_set]
theorem setI_length {α : Type} (r : List α) (i : Int) (y : α) : ((setI r i y).length : Int) = (r.length : Int) := by unfold setI; rw [List.length_set]
/-! ### sessions: lists of yes and no -/
def belowGo : List Bool → List Bool → Bool
  | x :: a, y :: b => (!x || y) && belowGo a b
  | _, _ => true
def belowB (a b : List Bool) : Bool := decide (a.length = b.length) && belowGo a b
theorem impl_below_eq (a b : List Bool) (h : b.length ≤ 1000000000) : impl_below a b = some (belowB a b) := by
  refine lim_eq (a.length + 1) fun k hk => ?_
  unfold impl_below.g belowB
  rw [bne_int]
  by_cases hl : a.length = b.length
  · rw [decide_eq_true hl]
    refine scan_run (step := impl_below.s0 k) (a.length : Int) (fun i (_ : Unit) => (b, a, (a.length : Int), i)) (fun i _ => some (belowGo (a.drop i.toNat) (b.drop i.toNat))) (fun _ _ => True) ?_ k 0 () (Int.le_refl _) (by omega) trivial (by omega)
    intro rec i _ h0 h1 _ ih
    unfold impl_below.s0
    simp only []
    by_cases hlt : i < (a.length : Int)
    · have hw : w64 (i + 1) = i + 1 := w64_id (by omega) (by omega)
      rw [bif_dec_t hlt, grd_dec h0, grd_dec hlt, dropI false a i h0 hlt, dropI false b i h0 (by omega), hw, ih hlt () trivial, grd_dec h0, grd_dec (show i < (b.length : Int) by omega)]
      cases rdOf false a i <;> cases rdOf false b i <;> rfl
    · rw [bif_dec_f hlt, dropE a i (by omega)]
      rfl
  · rw [decide_eq_false hl]
    rfl
theorem spec_l5Within_eq (a b : List Bool) (h : b.length ≤ 1000000000) : spec_l5Within a b = some (belowB a b) := by
  refine lim_eq (a.length + 1) fun k hk => ?_
  unfold spec_l5Within.g belowB
  rw [bne_int]
  by_cases hl : a.length = b.length
  · rw [decide_eq_true hl]
    refine scan_run (step := spec_l5Within.s0 k) (a.length : Int) (fun i (_ : Unit) => (a, b, (a.length : Int), i)) (fun i _ => some (belowGo (a.drop i.toNat) (b.drop i.toNat))) (fun _ _ => True) ?_ k 0 () (Int.le_refl _) (by omega) trivial (by omega)
    intro rec i _ h0 h1 _ ih
    unfold spec_l5Within.s0
    simp only []
    by_cases hlt : i < (a.length : Int)
    · have hw : w64 (i + 1) = i + 1 := w64_id (by omega) (by omega)
      have hlb : i < (b.length : Int) := by omega
      simp only [bif_dec_t hlt, grd_dec h0, grd_dec hlt, grd_dec hlb, dropI false a i h0 hlt, dropI false b i h0 hlb, hw, ih hlt () trivial]
      cases rdOf false a i <;> cases rdOf false b i <;> rfl
    · rw [bif_dec_f hlt, dropE a i (by omega)]
      rfl
  · rw [decide_eq_false hl]
    rfl
def allB (l : List Bool) : Bool := l.all id
theorem spec_l5AllTrue_eq (l : List Bool) (h : l.length ≤ 1000000000) : spec_l5AllTrue l = some (allB l) := by
  refine lim_eq (l.length + 1) fun k hk => ?_
  unfold spec_l5AllTrue.g allB
  rw [all_loop (step := spec_l5AllTrue.s0 k) false l id (some true) (some false) (fun i => (l, (l.length : Int), i)) ?_ ?_ k (by omega)]
  · cases l.all id <;> rfl
  · intro rec i h0 h1 _
    unfold spec_l5AllTrue.s0
    have hw : w64 (i + 1) = i + 1 := w64_id (by omega) (by omega)
    simp only [bif_dec_t h1, grd_dec h0, grd_dec h1, hw]
    cases rdOf false l i <;> rfl
  · intro rec
    unfold spec_l5AllTrue.s0
    simp only [bif_dec_f (Int.lt_irrefl _)]
theorem impl_isAll_eq (l : List Bool) (h : l.length ≤ 1000000000) : impl_isAll l = some (allB l) := by
  have key : ∃ r : Int, slices_Index_bool l false = some r ∧ (0 ≤ r ↔ allB l = false) := by
    have hr : slices_Index_bool l false = some (bif allB l then -1 else ((l.takeWhile id).length : Int)) := by
      refine lim_eq (l.length + 1) fun k hk => ?_
      unfold slices_Index_bool.g allB
      refine (scan_run (step := slices_Index_bool.s0 k) (l.length : Int) (fun i (_ : Unit) => (l, false, (l.length : Int), i)) (fun i _ => some (bif (l.drop i.toNat).all id then -1 else i + (((l.drop i.toNat).takeWhile id).length : Int))) (fun _ _ => True) ?_ k 0 () (Int.le_refl _) (by omega) trivial (by omega)).trans ?_
      · intro rec i _ h0 h1 _ ih
        unfold slices_Index_bool.s0
        simp only []
        by_cases hlt : i < (l.length : Int)
        · have hw : w64 (i + 1) = i + 1 := w64_id (by omega) (by omega)
          simp only [bif_dec_t hlt, grd_dec h0, grd_dec hlt, dropI false l i h0 hlt, hw, ih hlt () trivial]
          cases rdOf false l i
          · simp
          · simp only [List.all_cons, id, List.takeWhile_cons]
            cases (l.drop (i + 1).toNat).all id
            · simp; omega
            · rfl
        · rw [bif_dec_f hlt, dropE l i (by omega)]
          rfl
      · simp
    refine ⟨_, hr, ?_⟩
    cases allB l <;> simp
  obtain ⟨r, h1, h2⟩ := key
  unfold impl_isAll slices_Contains_bool
  rw [h1]
  simp only [Option.bind_some]
  cases hb : allB l
  · have := h2.2 hb
    rw [show decide (r ≥ 0) = true from decide_eq_true this]; rfl
  · have : ¬ r ≥ 0 := fun h => by have := h2.1 h; rw [hb] at this; cases this
    rw [decide_eq_false this]; rfl
def leftGo : Int → List Bool → List Int
  | _, [] => []
  | i, b :: r => bif b then leftGo (i + 1) r else i :: leftGo (i + 1) r
def leftN (l : List Bool) : List Int := leftGo 0 l
theorem leftGo_len : ∀ (l : List Bool) (i : Int), (leftGo i l).length ≤ l.length
  | [], _ => Nat.le_refl _
  | b :: r, i => by
    have := leftGo_len r (i + 1)
    cases b <;> simp [leftGo] <;> omega
theorem impl_left_eq (B : ByteArray) (a g : List Bool) (y : ByteArray) (dn : Bool) (wy bk : List (Int × Int × ByteArray × Bool × List Bool)) (h : a.length ≤ 1000000000) : impl_Session_left B a g y dn wy bk = some (leftN a) := by
  refine lim_eq (a.length + 1) fun k hk => ?_
  unfold impl_Session_left.g
  refine (scan_run (step := impl_Session_left.s0 k) (a.length : Int) (fun i (r : List Int) => (a, (a.length : Int), i, r)) (fun i r => some (r ++ leftGo i (a.drop i.toNat))) (fun i r => (r.length : Int) ≤ i) ?_ k 0 [] (Int.le_refl _) (by omega) (by simp) (by omega)).trans ?_
  · intro rec i r h0 h1 hJ ih
    unfold impl_Session_left.s0
    simp only []
    by_cases hlt : i < (a.length : Int)
    · have hw : w64 (i + 1) = i + 1 := w64_id (by omega) (by omega)
      simp only [bif_dec_t hlt, grd_dec h0, grd_dec hlt, grd_dec (show (r.length + 1) * 8 ≤ 140737488355328 by omega), dropI false a i h0 hlt, hw]
      rw [ih hlt (r ++ [i]) (by simp; omega), ih hlt r (by omega)]
      cases rdOf false a i <;> simp [leftGo]
    · rw [bif_dec_f hlt, dropE a i (by omega)]
      simp [leftGo]
  · rfl
theorem spec_left_eq (B : ByteArray) (a g : List Bool) (y : ByteArray) (dn : Bool) (wy bk : List (Int × Int × ByteArray × Bool × List Bool)) (h : a.length ≤ 1000000000) : spec_l5Left B a g y dn wy bk = some (leftN a) := by
  refine lim_eq (a.length + 1) fun k hk => ?_
  unfold spec_l5Left.g
  refine (scan_run (step := spec_l5Left.s0 k) (a.length : Int) (fun i (r : List Int) => (a, (a.length : Int), i, r)) (fun i r => some (r ++ leftGo i (a.drop i.toNat))) (fun i r => (r.length : Int) ≤ i) ?_ k 0 [] (Int.le_refl _) (by omega) (by simp) (by omega)).trans ?_
  · intro rec i r h0 h1 hJ ih
    unfold spec_l5Left.s0
    simp only []
    by_cases hlt : i < (a.length : Int)
    · have hw : w64 (i + 1) = i + 1 := w64_id (by omega) (by omega)
      simp only [bif_dec_t hlt, grd_dec h0, grd_dec hlt, grd_dec (show (r.length + 1) * 8 ≤ 140737488355328 by omega), dropI false a i h0 hlt, hw]
      rw [ih hlt (r ++ [i]) (by simp; omega), ih hlt r (by omega)]
      cases rdOf false a i <;> simp [leftGo]
    · rw [bif_dec_f hlt, dropE a i (by omega)]
      simp [leftGo]
  · rfl
/-! ### sessions: bytes -/
theorem strOf_bytesOf (s : ByteArray) : strOfNums (bytesOf s) = s := by
  refine ByteArray.ext (Array.ext' ?_)
  show (strOfNums (bytesOf s)).data.toList = _
  rw [strOfNums_data]
  unfold bytesOf
  rw [List.map_map]
  conv => rhs; rw [← List.map_id s.data.toList]
  refine List.map_congr_left (fun b _ => ?_)
  simp
theorem strOf_append (a b : List Int) : strOfNums (a ++ b) = strOfNums a ++ strOfNums b := by
  refine ByteArray.ext (Array.ext' ?_)
  rw [strOfNums_data, List.map_append, ByteArray.data_append, Array.toList_append, strOfNums_data, strOfNums_data]
theorem bytesOf_append (a b : ByteArray) : bytesOf (a ++ b) = bytesOf a ++ bytesOf b := by
  unfold bytesOf
  rw [ByteArray.data_append, Array.toList_append, List.map_append]
theorem bytesOf_sub (s : ByteArray) (a b : Int) : bytesOf (sub s a b) = ((bytesOf s).take b.toNat).drop a.toNat := by
  unfold bytesOf sub
  rw [ByteArray.data_extract, Array.toList_extract, List.extract_eq_take_drop, ← List.drop_take, List.map_drop, List.map_take]
theorem size_sub (s : ByteArray) (a b : Int) : (sub s a b).size = min b.toNat s.size - a.toNat := by
  rw [← bytesOf_length, bytesOf_sub, List.length_drop, List.length_take, bytesOf_length]
theorem str_append_assoc (a b c : ByteArray) : a ++ b ++ c = a ++ (b ++ c) := ByteArray.append_assoc
def manyN (B : ByteArray) : Nat := (B.size + 7) / 8
theorem impl_many_eq (B : ByteArray) (h : B.size ≤ 1000000000) : impl_many B = some (manyN B : Int) := by
  unfold impl_many manyN
  rw [w64_id (n := (B.size : Int) + 8) (by omega) (by omega), w64_id (n := (B.size : Int) + 8 - 1) (by omega) (by omega), Int.tdiv_eq_ediv_of_nonneg (by omega), w64_id (by omega) (by omega)]
  congr 1
  omega
theorem spec_many_eq (B : ByteArray) (a g : List Bool) (y : ByteArray) (dn : Bool) (wy bk : List (Int × Int × ByteArray × Bool × List Bool)) (h : B.size ≤ 1000000000) : spec_l5Many B a g y dn wy bk = some (manyN B : Int) := impl_many_eq B h
/-- a segment of a block -/
def segN (B : ByteArray) (i : Int) : ByteArray := sub B (i * 8) ((i + 1) * 8)
theorem sub_min (B : ByteArray) (a b : Int) (h0 : 0 ≤ a) (h : a ≤ B.size) : sub B a (mn (B.size : Int) b) = sub B a b := by
  have hb : bytesOf (sub B a (mn (B.size : Int) b)) = bytesOf (sub B a b) := by
    rw [bytesOf_sub, bytesOf_sub]
    unfold mn
    split
    · rfl
    · rw [List.take_of_length_le (i := b.toNat) (by rw [bytesOf_length]; omega), List.take_of_length_le (i := (B.size : Int).toNat) (by rw [bytesOf_length]; omega)]
  rw [← strOf_bytesOf (sub B a _), hb, strOf_bytesOf]
theorem impl_segment_eq (B : ByteArray) (i : Int) (h0 : 0 ≤ i) (h1 : i * 8 ≤ B.size) (h : B.size ≤ 1000000000) : impl_segment B i = some (segN B i) := by
  unfold impl_segment segN
  have e1 : w64 (i + 1) = i + 1 := w64_id (by omega) (by omega)
  have e2 : w64 ((i + 1) * 8) = (i + 1) * 8 := w64_id (by omega) (by omega)
  have e3 : w64 (i * 8) = i * 8 := w64_id (by omega) (by omega)
  have h2 : 0 ≤ mn (B.size : Int) ((i + 1) * 8) := by unfold mn; split <;> omega
  have h3 : mn (B.size : Int) ((i + 1) * 8) ≤ (B.size : Int) := by unfold mn; split <;> omega
  have h4 : i * 8 ≤ mn (B.size : Int) ((i + 1) * 8) := by unfold mn; split <;> omega
  rw [e1, e2, e3, grd_dec h2, grd_dec h3, grd_dec (show 0 ≤ i * 8 by omega), grd_dec h4, sub_min _ _ _ (by omega) h1]
theorem spec_text_eq (B : ByteArray) (a g : List Bool) (y : ByteArray) (dn : Bool) (wy bk : List (Int × Int × ByteArray × Bool × List Bool)) (i : Int) (h0 : 0 ≤ i) (h1 : i * 8 ≤ B.size) (h : B.size ≤ 1000000000) : spec_l5Text B a g y dn wy bk i = some (segN B i) := by
  unfold spec_l5Text segN
  have e1 : w64 (i + 1) = i + 1 := w64_id (by omega) (by omega)
  have e2 : w64 ((i + 1) * 8) = (i + 1) * 8 := w64_id (by omega) (by omega)
  have e3 : w64 (i * 8) = i * 8 := w64_id (by omega) (by omega)
  rw [e1, e2, e3]
  by_cases hc : (i + 1) * 8 > (B.size : Int)
  · rw [bif_dec_t hc, grd_dec (show (0 : Int) ≤ B.size by omega), grd_dec (Int.le_refl _), grd_dec (show 0 ≤ i * 8 by omega), grd_dec h1]
    have : mn (B.size : Int) ((i + 1) * 8) = B.size := by unfold mn; rw [if_neg (by omega)]
    rw [← sub_min B (i * 8) ((i + 1) * 8) (by omega) h1, this]
  · rw [bif_dec_f hc, grd_dec (show 0 ≤ (i + 1) * 8 by omega), grd_dec (by omega), grd_dec (show 0 ≤ i * 8 by omega), grd_dec (by omega)]
theorem segN_bytes (B : ByteArray) (i : Int) (h0 : 0 ≤ i) : bytesOf (segN B i) = ((bytesOf B).drop (8 * i.toNat)).take 8 := by
  unfold segN
  rw [bytesOf_sub, List.drop_take, show (i * 8).toNat = 8 * i.toNat by omega, show ((i + 1) * 8).toNat - 8 * i.toNat = 8 by omega]
theorem segN_size (B : ByteArray) (i : Int) (h0 : 0 ≤ i) : (segN B i).size = min 8 (B.size - 8 * i.toNat) := by
  rw [← bytesOf_length, segN_bytes B i h0, List.length_take, List.length_drop, bytesOf_length]
/-- the bytes that came -/
def bytesL : List Int → List Bool → List Int
  | bl, [] => List.replicate bl.length 0
  | bl, g :: r => (bif g then bl.take 8 else List.replicate (min 8 bl.length) 0) ++ bytesL (bl.drop 8) r
theorem bytesL_len : ∀ (got : List Bool) (bl : List Int), (bytesL bl got).length = bl.length
  | [], bl => by simp [bytesL]
  | g :: r, bl => by
    have := bytesL_len r (bl.drop 8)
    cases g <;> simp [bytesL, this] <;> omega
theorem bytesL_all : ∀ (got : List Bool) (bl : List Int), allB got = true → bl.length ≤ 8 * got.length → bytesL bl got = bl
  | [], bl, _, h => by
    have : bl = [] := List.eq_nil_of_length_eq_zero (by simpa using h)
    subst this; rfl
  | g :: r, bl, ha, h => by
    have ha : g = true ∧ allB r = true := by simpa [allB] using ha
    rw [bytesL, ha.1, bytesL_all r (bl.drop 8) ha.2 (by simp at h ⊢; omega)]
    exact List.take_append_drop 8 bl
theorem bytesL_none : ∀ (n : Nat) (bl : List Int), bytesL bl (List.replicate n false) = List.replicate bl.length 0
  | 0, bl => rfl
  | n + 1, bl => by
    rw [List.replicate_succ, bytesL, bytesL_none n, List.length_drop, cond_false, List.replicate_append_replicate]
    congr 1
    omega
def bytesN (B : ByteArray) (got : List Bool) : ByteArray := strOfNums (bytesL (bytesOf B) got)
theorem bytesN_size (B : ByteArray) (got : List Bool) : (bytesN B got).size = B.size := by unfold bytesN; rw [strOfNums_size, bytesL_len, bytesOf_length]
theorem impl_bytes_eq (B : ByteArray) (a g : List Bool) (y : ByteArray) (dn : Bool) (wy bk : List (Int × Int × ByteArray × Bool × List Bool)) (h : B.size ≤ 1000000000) (hg : g.length = manyN B) : impl_Session_bytes B a g y dn wy bk = some (bytesN B g) := by
  refine lim_eq (g.length + 1) fun k hk => ?_
  have hm : 8 * g.length ≤ B.size + 7 ∧ B.size ≤ 8 * g.length := by rw [hg]; unfold manyN; omega
  unfold impl_Session_bytes.g
  rw [grd_self, grd_dec (show (0 : Int) ≤ B.size by omega), grd_dec (show ((B.size : Int)).toNat * 1 ≤ 140737488355328 by omega)]
  refine (scan_run (step := impl_Session_bytes.s0 k) (g.length : Int) (fun i (r : List Int) => (g, (g.length : Int), i, B, a, g, y, dn, wy, bk, r)) (fun i r => some (strOfNums (r.take (8 * i.toNat) ++ bytesL ((bytesOf B).drop (8 * i.toNat)) (g.drop i.toNat)))) (fun i r => r.length = B.size ∧ r.drop (8 * i.toNat) = List.replicate (B.size - 8 * i.toNat) 0) ?_ k 0 _ (Int.le_refl _) (by omega) ⟨by simp, by simp⟩ (by omega)).trans ?_
  · intro rec i r h0 h1 hJ ih
    unfold impl_Session_bytes.s0
    simp only []
    by_cases hlt : i < (g.length : Int)
    · have hw : w64 (i + 1) = i + 1 := w64_id (by omega) (by omega)
      have hw8 : w64 (i * 8) = i * 8 := w64_id (by omega) (by omega)
      have hi8 : (i + 1).toNat = i.toNat + 1 := by omega
      have hz : (r.drop (8 * i.toNat)).take 8 = List.replicate (min 8 (B.size - 8 * i.toNat)) 0 := by rw [hJ.2, List.take_replicate]
      rw [bif_dec_t hlt, grd_dec h0, grd_dec hlt, dropI false g i h0 hlt, hw, hw8]
      cases hx : rdOf false g i with
      | true =>
        rw [cond_true, grd_dec (show 0 ≤ i * 8 by omega), grd_dec (show i * 8 ≤ (r.length : Int) by omega), impl_segment_eq B i h0 (by omega) h, Option.bind_some]
        have hs := segN_size B i h0
        rw [grd_dec (show i * 8 + ((segN B i).size : Int) ≤ (r.length : Int) by omega)]
        have hp : putS r (i * 8) (segN B i) = r.take (8 * i.toNat) ++ ((bytesOf B).drop (8 * i.toNat)).take 8 ++ r.drop (8 * i.toNat + (segN B i).size) := by
          unfold putS
          rw [segN_bytes B i h0, show (i * 8).toNat = 8 * i.toNat by omega]
        have hl1 : (r.take (8 * i.toNat)).length = 8 * i.toNat := by rw [List.length_take]; omega
        have hl2 : (((bytesOf B).drop (8 * i.toNat)).take 8).length = (segN B i).size := by rw [← bytesOf_length (segN B i), segN_bytes B i h0]
        rw [ih hlt _ ⟨by rw [hp]; simp only [List.length_append, List.length_drop, hl1, hl2]; omega, by
          rw [hp, hi8, List.append_assoc, List.drop_append, List.drop_of_length_le (by rw [hl1]; omega), List.nil_append, hl1, List.drop_append, List.drop_of_length_le (by rw [hl2]; omega), List.nil_append, hl2, List.drop_drop]
          have := congrArg (List.drop 8) hJ.2
          rw [List.drop_drop, List.drop_replicate] at this
          by_cases hc : 8 * (i.toNat + 1) ≤ B.size
          · rw [show 8 * i.toNat + (segN B i).size + (8 * (i.toNat + 1) - 8 * i.toNat - (segN B i).size) = 8 * i.toNat + 8 by omega, this]
            congr 1
          · rw [List.drop_of_length_le (by omega), show B.size - 8 * (i.toNat + 1) = 0 by omega]; rfl⟩]
        congr 2
        rw [hp, hi8, bytesL, cond_true, List.drop_drop, show 8 * i.toNat + 8 = 8 * (i.toNat + 1) by omega, ← List.append_assoc]
        congr 1
        rw [List.take_append, List.take_of_length_le (by rw [List.length_append, hl1, hl2]; omega), List.length_append, hl1, hl2]
        by_cases hc : 8 * (i.toNat + 1) ≤ B.size
        · rw [show 8 * (i.toNat + 1) - (8 * i.toNat + (segN B i).size) = 0 by omega, List.take_zero, List.append_nil]
        · rw [List.drop_of_length_le (l := r) (by omega), List.take_nil, List.append_nil]
      | false =>
        rw [cond_false, ih hlt r ⟨hJ.1, by
          have := congrArg (List.drop 8) hJ.2
          rw [List.drop_drop, List.drop_replicate] at this
          rw [hi8, show 8 * (i.toNat + 1) = 8 * i.toNat + 8 by omega, this]
          congr 1⟩]
        congr 2
        rw [hi8, bytesL, cond_false, List.drop_drop, show 8 * (i.toNat + 1) = 8 * i.toNat + 8 by omega, ← List.append_assoc]
        congr 1
        rw [List.take_add, hz]
        congr 2
        rw [List.length_drop, bytesOf_length]
    · have hi : i = (g.length : Int) := by omega
      subst hi
      rw [bif_dec_f (Int.lt_irrefl _)]
      simp only [Int.toNat_natCast]
      rw [List.drop_of_length_le (Nat.le_refl g.length), bytesL, List.length_drop, bytesOf_length, List.take_of_length_le (by omega), show B.size - 8 * g.length = 0 by omega]
      simp
  · rfl
theorem spec_bytes_eq (B : ByteArray) (a g : List Bool) (y : ByteArray) (dn : Bool) (wy bk : List (Int × Int × ByteArray × Bool × List Bool)) (h : B.size ≤ 1000000000) (hg : g.length = manyN B) : spec_l5Bytes B a g y dn wy bk = some (bytesN B g) := by
  refine lim_eq (g.length + 1) fun k hk => ?_
  have hm : 8 * g.length ≤ B.size + 7 ∧ B.size ≤ 8 * g.length := by rw [hg]; unfold manyN; omega
  unfold spec_l5Bytes.g
  refine (scan_run (step := spec_l5Bytes.s0 k) (g.length : Int) (fun i (o : ByteArray) => (o, i, B, a, g, y, dn, wy, bk)) (fun i o => some (o ++ strOfNums (bytesL ((bytesOf B).drop (8 * i.toNat)) (g.drop i.toNat)))) (fun i o => o.size ≤ 8 * i.toNat) ?_ k 0 _ (Int.le_refl _) (by omega) (by simp [emp, ByteArray.size]) (by omega)).trans ?_
  · intro rec i o h0 h1 hJ ih
    unfold spec_l5Bytes.s0
    simp only [spec_many_eq B a g y dn wy bk h, Option.bind_some, ← hg]
    by_cases hlt : i < (g.length : Int)
    · have hw : w64 (i + 1) = i + 1 := w64_id (by omega) (by omega)
      have hi8 : (i + 1).toNat = i.toNat + 1 := by omega
      have hs := segN_size B i h0
      rw [bif_dec_t hlt, spec_text_eq B a g y dn wy bk i h0 (by omega) h, Option.bind_some, grd_dec h0, grd_dec hlt, dropI false g i h0 hlt, hw]
      cases hx : rdOf false g i with
      | true =>
        rw [cond_true, grd_dec (by omega), ih hlt _ (by rw [ByteArray.size_append]; omega), bytesL, cond_true, strOf_append, ← segN_bytes B i h0, strOf_bytesOf, List.drop_drop, hi8, show 8 * (i.toNat + 1) = 8 * i.toNat + 8 by omega, str_append_assoc]
      | false =>
        have hz : strOfNums (List.replicate (((segN B i).size : Int)).toNat 0) = strOfNums (List.replicate (min 8 ((bytesOf B).drop (8 * i.toNat)).length) 0) := by
          congr 2
          rw [Int.toNat_natCast, hs, List.length_drop, bytesOf_length]
        rw [cond_false, grd_self, grd_dec (show (0 : Int) ≤ (segN B i).size by omega), grd_dec (by omega), grd_dec (by rw [strOfNums_size, List.length_replicate]; omega), ih hlt _ (by rw [ByteArray.size_append, strOfNums_size, List.length_replicate]; omega), bytesL, cond_false, strOf_append, hz, List.drop_drop, hi8, show 8 * (i.toNat + 1) = 8 * i.toNat + 8 by omega, str_append_assoc]
    · have hi : i = (g.length : Int) := by omega
      subst hi
      rw [bif_dec_f (Int.lt_irrefl _)]
      simp only [Int.toNat_natCast]
      rw [List.drop_of_length_le (Nat.le_refl g.length), bytesL, List.length_drop, bytesOf_length, show B.size - 8 * g.length = 0 by omega]
      congr 1
      refine ByteArray.ext (Array.ext' ?_)
      rw [ByteArray.data_append, Array.toList_append]
      simp [strOfNums]
  · congr 1
/-! ### sessions: good ones -/
theorem toList_loop (x : ByteArray) : ∀ (n i : Nat) (r : List UInt8), x.size - i = n → ByteArray.toList.loop x i r = r.reverse ++ x.data.toList.drop i := by
  intro n
  induction n with
  | zero =>
    intro i r h
    rw [ByteArray.toList.loop, if_neg (by omega), List.drop_of_length_le (by rw [Array.length_toList]; show x.size ≤ i; omega), List.append_nil]
  | succ n ih =>
    intro i r h
    have hi : i < x.data.toList.length := by
      rw [Array.length_toList]
      show i < x.size
      omega
    have hi' : i < x.data.size := by rw [Array.length_toList] at hi; exact hi
    rw [ByteArray.toList.loop, if_pos (by omega), ih (i + 1) _ (by omega), List.reverse_cons, List.append_assoc, List.drop_eq_getElem_cons hi, List.singleton_append]
    congr 2
    show x.data[i]! = _
    rw [getElem!_pos x.data i hi']
    rfl
theorem bytes_toList (x : ByteArray) : x.toList = x.data.toList := by
  exact toList_loop x _ 0 [] rfl
theorem str_beq (x y : ByteArray) : (x.toList == y.toList) = true ↔ x = y := by
  rw [bytes_toList, bytes_toList]
  constructor
  · intro h
    exact ByteArray.ext (Array.ext' (eq_of_beq h))
  · intro h; subst h; exact beq_self_eq_true _
theorem str_self (x : ByteArray) : (x.toList == x.toList) = true := (str_beq x x).mpr rfl
abbrev SEG := Int × Int × ByteArray × Bool × List Bool
abbrev seg0 : SEG := (0, 0, emp, false, [])
def wayB (B : ByteArray) (x : SEG) : Bool := (x.1 == 1) && decide (0 ≤ x.2.1) && decide (x.2.1 < (manyN B : Int)) && (x.2.2.1.toList == (segN B x.2.1).toList) && decide (x.2.2.2.2.length = 0)
def backB (g : List Bool) (x : SEG) : Bool := (x.1 == 2) && (x.2.1 == 0) && (x.2.2.1.toList == emp.toList) && !x.2.2.2.1 && belowB x.2.2.2.2 g
def goodN (B : ByteArray) (a g : List Bool) (y : ByteArray) (dn : Bool) (wy bk : List SEG) : Bool :=
  decide (1 ≤ B.size) && decide (B.size ≤ 40) && decide (g.length = manyN B) && belowB a g && (y.toList == (bytesN B g).toList) && (dn == allB a) && decide (wy.length ≤ 30) && decide (bk.length ≤ 30) && wy.all (wayB B) && bk.all (backB g)
theorem impl_within_eq (n lo hi : Int) : impl_within n lo hi = some (decide (lo ≤ n) && decide (n ≤ hi)) := by
  unfold impl_within
  cases decide (lo ≤ n) <;> rfl
theorem spec_l1In_eq (n lo hi : Int) : spec_l1In n lo hi = some (decide (lo ≤ n) && decide (n ≤ hi)) := by
  unfold spec_l1In
  by_cases h : lo ≤ n
  · rw [bif_dec_t h, decide_eq_true h]; rfl
  · rw [bif_dec_f h, decide_eq_false h]; rfl
theorem impl_Good_eq (B : ByteArray) (a g : List Bool) (y : ByteArray) (dn : Bool) (wy bk : List SEG) : impl_GoodSession B a g y dn wy bk = some (goodN B a g y dn wy bk) := by
  refine lim_eq (wy.length + bk.length + 1) fun k hk => ?_
  unfold impl_GoodSession.g impl_isBlock goodN
  rw [impl_within_eq, Option.bind_some, Option.bind_some]
  by_cases hB : 1 ≤ B.size ∧ B.size ≤ 40
  · rw [decide_eq_true (show (1 : Int) ≤ (B.size : Int) by omega), decide_eq_true (show (B.size : Int) ≤ 40 by omega), decide_eq_true hB.1, decide_eq_true hB.2, impl_many_eq B (by omega), Option.bind_some, bne_int]
    simp only [Bool.and_self, Bool.not_true, cond_false, Bool.true_and]
    by_cases hm : g.length = manyN B
    · have hm5 : manyN B ≤ 5 := by unfold manyN; omega
      have hm1 : 1 ≤ manyN B := by unfold manyN; omega
      rw [decide_eq_true hm, impl_below_eq a g (by omega), Option.bind_some]
      simp only [Bool.not_true, cond_false, Bool.true_and]
      cases hb : belowB a g with
      | false => rfl
      | true =>
        have hal : a.length = g.length := by unfold belowB at hb; simp at hb; exact hb.1
        simp only [Bool.not_true, cond_false, Bool.true_and]
        rw [impl_bytes_eq B a g y dn wy bk (by omega) hm, Option.bind_some]
        cases hy : y.toList == (bytesN B g).toList with
        | false => rfl
        | true =>
          simp only [Bool.not_true, cond_false, Bool.true_and]
          rw [impl_isAll_eq a (by omega), Option.bind_some]
          cases hd : dn == allB a with
          | false => rfl
          | true =>
            simp only [Bool.not_true, cond_false, Bool.true_and]
            by_cases hw : wy.length ≤ 30
            · rw [bif_dec_f (show ¬ (wy.length : Int) > 30 by omega), decide_eq_true hw]
              by_cases hk2 : bk.length ≤ 30
              · rw [bif_dec_f (show ¬ (bk.length : Int) > 30 by omega), decide_eq_true hk2]
                simp only [Bool.true_and]
                refine (all_loop (step := impl_GoodSession.s0 k) seg0 wy (wayB B) (some (bk.all (backB g))) (some false) (fun i => (wy, (wy.length : Int), i, B, a, g, y, dn, wy, bk)) ?_ ?_ k (by omega)).trans ?_
                · intro rec i h0 h1 _
                  unfold impl_GoodSession.s0
                  simp only []
                  rw [bif_dec_t h1, grd_dec h0, grd_dec h1, w64_id (n := i + 1) (by omega) (by omega), impl_within_eq, Option.bind_some, w64_id (n := (g.length : Int) - 1) (by omega) (by omega)]
                  unfold wayB
                  generalize rdOf seg0 wy i = x
                  cases h1' : x.1 == 1 with
                  | false => rw [bne, h1']; rfl
                  | true =>
                    rw [bne, h1']
                    simp only [Bool.not_true, cond_false, Bool.true_and]
                    by_cases hx : 0 ≤ x.2.1 ∧ x.2.1 < (manyN B : Int)
                    · rw [decide_eq_true hx.1, decide_eq_true hx.2, decide_eq_true (show x.2.1 ≤ (g.length : Int) - 1 by omega), impl_segment_eq B x.2.1 hx.1 (by have := hx.2; unfold manyN at this; omega) (by omega)]
                      simp only [Bool.and_self, Bool.not_true, cond_false, Bool.true_and, Option.bind_some]
                      cases hs : x.2.2.1.toList == (segN B x.2.1).toList with
                      | false => rfl
                      | true =>
                        simp only [Bool.not_true, cond_false, Bool.true_and]
                        rw [show ((x.2.2.2.2.length : Int) != 0) = !(decide (x.2.2.2.2.length = 0)) from bne_int _ 0]
                        cases decide (x.2.2.2.2.length = 0) <;> rfl
                    · have : (decide (0 ≤ x.2.1) && decide (x.2.1 ≤ (g.length : Int) - 1)) = false := by simp; omega
                      have h2 : (decide (0 ≤ x.2.1) && decide (x.2.1 < (manyN B : Int))) = false := by simp; omega
                      rw [this, h2]
                      rfl
                · intro rec
                  unfold impl_GoodSession.s0
                  simp only []
                  rw [bif_dec_f (Int.lt_irrefl _)]
                  refine (all_loop (step := impl_GoodSession.s2 k) seg0 bk (backB g) (some true) (some false) (fun i => (bk, (bk.length : Int), i, B, a, g, y, dn, wy, bk)) ?_ ?_ k (by omega)).trans ?_
                  · intro rec i h0 h1 _
                    unfold impl_GoodSession.s2
                    simp only []
                    rw [bif_dec_t h1, grd_dec h0, grd_dec h1, w64_id (n := i + 1) (by omega) (by omega), impl_below_eq _ g (by omega), Option.bind_some]
                    unfold backB
                    generalize rdOf seg0 bk i = x
                    rw [bne, bne]
                    cases x.1 == 2 <;> cases x.2.1 == 0 <;> cases x.2.2.1.toList == emp.toList <;> cases x.2.2.2.1 <;> cases belowB x.2.2.2.2 g <;> rfl
                  · intro rec
                    unfold impl_GoodSession.s2
                    simp only []
                    rw [bif_dec_f (Int.lt_irrefl _)]
                  · cases bk.all (backB g) <;> rfl
                · cases wy.all (wayB B) <;> rfl
              · rw [bif_dec_t (show (bk.length : Int) > 30 by omega), decide_eq_false hk2]
                rfl
            · rw [bif_dec_t (show (wy.length : Int) > 30 by omega), decide_eq_false hw]
              rfl
    · rw [decide_eq_false hm]
      rfl
  · have h1 : (decide ((1 : Int) ≤ (B.size : Int)) && decide ((B.size : Int) ≤ 40)) = false := by simp; omega
    have h2 : (decide (1 ≤ B.size) && decide (B.size ≤ 40)) = false := by simp; omega
    rw [h1, h2]
    rfl
theorem spec_seg_way (B : ByteArray) (a g : List Bool) (y : ByteArray) (dn : Bool) (wy bk : List SEG) (x : SEG) (h : B.size ≤ 1000000000) : spec_l5Segment B a g y dn wy bk x.1 x.2.1 x.2.2.1 x.2.2.2.1 x.2.2.2.2 false = some (wayB B x) := by
  unfold spec_l5Segment wayB
  cases x.1 == 1 with
  | false => rfl
  | true =>
    simp only [cond_false, cond_true, Bool.true_and, spec_many_eq B a g y dn wy bk h, Option.bind_some]
    by_cases h0 : 0 ≤ x.2.1
    · rw [bif_dec_t h0, decide_eq_true h0]
      by_cases h1 : x.2.1 < (manyN B : Int)
      · rw [bif_dec_t h1, decide_eq_true h1, spec_text_eq B a g y dn wy bk x.2.1 h0 (by unfold manyN at h1; omega) h, Option.bind_some]
        simp only [Bool.true_and]
        cases x.2.2.1.toList == (segN B x.2.1).toList with
        | false => rfl
        | true =>
          simp only [cond_true, Bool.true_and]
          congr 1
          rw [Bool.eq_iff_iff]
          simp
      · rw [bif_dec_f h1, decide_eq_false h1]
        rfl
    · rw [bif_dec_f h0, decide_eq_false h0]
      rfl
theorem spec_seg_back (B : ByteArray) (a g : List Bool) (y : ByteArray) (dn : Bool) (wy bk : List SEG) (x : SEG) (h : g.length ≤ 1000000000) : spec_l5Segment B a g y dn wy bk x.1 x.2.1 x.2.2.1 x.2.2.2.1 x.2.2.2.2 true = some (backB g x) := by
  unfold spec_l5Segment backB
  rw [spec_l5Within_eq _ g h, Option.bind_some]
  cases x.1 == 2 <;> cases x.2.1 == 0 <;> cases x.2.2.1.toList == emp.toList <;> cases x.2.2.2.1 <;> cases belowB x.2.2.2.2 g <;> rfl
theorem spec_Good_eq (B : ByteArray) (a g : List Bool) (y : ByteArray) (dn : Bool) (wy bk : List SEG) : spec_GoodSession B a g y dn wy bk = some (goodN B a g y dn wy bk) := by
  refine lim_eq (wy.length + bk.length + 1) fun k hk => ?_
  unfold spec_GoodSession.g goodN
  rw [spec_l1In_eq, Option.bind_some]
  by_cases hB : 1 ≤ B.size ∧ B.size ≤ 40
  · rw [decide_eq_true (show (1 : Int) ≤ (B.size : Int) by omega), decide_eq_true (show (B.size : Int) ≤ 40 by omega), decide_eq_true hB.1, decide_eq_true hB.2, spec_many_eq B a g y dn wy bk (by omega), Option.bind_some, bne_int]
    simp only [Bool.and_self, Bool.not_true, cond_false, Bool.true_and]
    by_cases hm : g.length = manyN B
    · have hm5 : manyN B ≤ 5 := by unfold manyN; omega
      have hm1 : 1 ≤ manyN B := by unfold manyN; omega
      rw [decide_eq_true hm, spec_l5Within_eq a g (by omega), Option.bind_some]
      simp only [Bool.not_true, cond_false, Bool.true_and]
      cases hb : belowB a g with
      | false => rfl
      | true =>
        have hal : a.length = g.length := by unfold belowB at hb; simp at hb; exact hb.1
        simp only [Bool.not_true, cond_false, Bool.true_and]
        rw [spec_bytes_eq B a g y dn wy bk (by omega) hm, Option.bind_some]
        cases hy : y.toList == (bytesN B g).toList with
        | false => rfl
        | true =>
          simp only [Bool.not_true, cond_false, Bool.true_and]
          rw [spec_l5AllTrue_eq a (by omega), Option.bind_some]
          cases hd : dn == allB a with
          | false => rfl
          | true =>
            simp only [Bool.not_true, cond_false, Bool.true_and]
            by_cases hw : wy.length ≤ 30
            · rw [bif_dec_f (show ¬ (wy.length : Int) > 30 by omega), decide_eq_true hw]
              by_cases hk2 : bk.length ≤ 30
              · rw [bif_dec_f (show ¬ (bk.length : Int) > 30 by omega), decide_eq_true hk2]
                simp only [Bool.true_and]
                refine (all_loop (step := spec_GoodSession.s0 k) seg0 wy (wayB B) (some (bk.all (backB g))) (some false) (fun i => (wy, (wy.length : Int), i, B, a, g, y, dn, wy, bk)) ?_ ?_ k (by omega)).trans ?_
                · intro rec i h0 h1 _
                  unfold spec_GoodSession.s0
                  simp only []
                  rw [bif_dec_t h1, grd_dec h0, grd_dec h1, w64_id (n := i + 1) (by omega) (by omega), spec_seg_way B a g y dn wy bk (rdOf seg0 wy i) (by omega), Option.bind_some]
                  cases wayB B (rdOf seg0 wy i) <;> rfl
                · intro rec
                  unfold spec_GoodSession.s0
                  simp only []
                  rw [bif_dec_f (Int.lt_irrefl _)]
                  refine (all_loop (step := spec_GoodSession.s2 k) seg0 bk (backB g) (some true) (some false) (fun i => (bk, (bk.length : Int), i, B, a, g, y, dn, wy, bk)) ?_ ?_ k (by omega)).trans ?_
                  · intro rec i h0 h1 _
                    unfold spec_GoodSession.s2
                    simp only []
                    rw [bif_dec_t h1, grd_dec h0, grd_dec h1, w64_id (n := i + 1) (by omega) (by omega), spec_seg_back B a g y dn wy bk (rdOf seg0 bk i) (by omega), Option.bind_some]
                    cases backB g (rdOf seg0 bk i) <;> rfl
                  · intro rec
                    unfold spec_GoodSession.s2
                    simp only []
                    rw [bif_dec_f (Int.lt_irrefl _)]
                  · cases bk.all (backB g) <;> rfl
                · cases wy.all (wayB B) <;> rfl
              · rw [bif_dec_t (show (bk.length : Int) > 30 by omega), decide_eq_false hk2]
                rfl
            · rw [bif_dec_t (show (wy.length : Int) > 30 by omega), decide_eq_false hw]
              rfl
    · rw [decide_eq_false hm]
      rfl
  · have h1 : (decide ((1 : Int) ≤ (B.size : Int)) && decide ((B.size : Int) ≤ 40)) = false := by simp; omega
    have h2 : (decide (1 ≤ B.size) && decide (B.size ≤ 40)) = false := by simp; omega
    rw [h1, h2]
    rfl
/-! ### sessions: what one step does -/
theorem take_setI {α : Type} (r : List α) (i : Int) (v : α) (h0 : 0 ≤ i) (h1 : i < (r.length : Int)) : (setI r i v).take (i + 1).toNat = r.take i.toNat ++ [v] := by
  unfold setI
  have hi : i.toNat < r.length := by omega
  rw [show (i + 1).toNat = i.toNat + 1 by omega, List.take_succ_eq_append_getElem (by rw [List.length_set]; exact hi), List.take_set_of_le (Nat.le_refl _), List.getElem_set_self]
theorem drop_setI {α : Type} (r : List α) (i : Int) (v : α) (h0 : 0 ≤ i) : (setI r i v).drop (i + 1).toNat = r.drop (i + 1).toNat := by
  unfold setI
  rw [List.drop_set_of_lt (by omega)]
theorem setI_len {α : Type} (r : List α) (i : Int) (v : α) : (setI r i v).length = r.length := by unfold setI; rw [List.length_set]
structure Ses where
  B : ByteArray
  y : ByteArray
  dn : Bool
  a : List Bool
  g : List Bool
  wy : List SEG
  bk : List SEG
def Ses.good (s : Ses) : Bool := goodN s.B s.a s.g s.y s.dn s.wy s.bk
def Ses.out (s : Ses) : ByteArray × ByteArray × Bool × List Bool × List Bool × List SEG × List SEG := (s.B, s.y, s.dn, s.a, s.g, s.wy, s.bk)
def orL (a b : List Bool) : List Bool := List.zipWith (· || ·) a b
def comeN (x : SEG) (s : Ses) : Ses :=
  bif x.1 == 2 then ⟨s.B, s.y, allB (orL s.a x.2.2.2.2), orL s.a x.2.2.2.2, s.g, s.wy, s.bk⟩
  else ⟨s.B, bytesN s.B (setI s.g x.2.1 true), s.dn, s.a, setI s.g x.2.1 true, s.wy, bif x.2.2.2.1 then bif decide (s.bk.length < 30) then s.bk ++ [(2, 0, emp, false, setI s.g x.2.1 true)] else s.bk else s.bk⟩
structure Fit (s : Ses) (x : SEG) : Prop where
  sz : s.B.size ≤ 40
  gl : s.g.length = manyN s.B
  al : s.a.length = s.g.length
  wl : s.wy.length ≤ 30
  bl : s.bk.length ≤ 30
  ac : x.1 = 2 → x.2.2.2.2.length = s.a.length
  nm : x.1 ≠ 2 → 0 ≤ x.2.1 ∧ x.2.1 < (s.g.length : Int)
theorem or_step (r x : List Bool) (i : Int) (h0 : 0 ≤ i) (h1 : i < (x.length : Int)) (hl : r.length = x.length) :
    (setI r i (rdOf false r i || rdOf false x i)).take (i + 1).toNat ++ orL ((setI r i (rdOf false r i || rdOf false x i)).drop (i + 1).toNat) (x.drop (i + 1).toNat) = r.take i.toNat ++ orL (r.drop i.toNat) (x.drop i.toNat) := by
  rw [take_setI _ _ _ h0 (by omega), drop_setI _ _ _ h0, dropI false r i h0 (by omega), dropI false x i h0 h1, List.append_assoc]
  rfl
theorem impl_take_eq (s : Ses) (x : SEG) (f : Fit s x) : impl_Session_take x.1 x.2.1 x.2.2.1 x.2.2.2.1 x.2.2.2.2 s.B s.y s.dn s.a s.g s.wy s.bk = some (comeN x s).out := by
  have hm5 : manyN s.B ≤ 5 := by have := f.sz; unfold manyN; omega
  have hgl := f.gl
  have hal := f.al
  have hbl := f.bl
  refine lim_eq (x.2.2.2.2.length + 1) fun k hk => ?_
  unfold impl_Session_take.g comeN
  by_cases h2 : x.1 = 2
  · rw [show (x.1 == 2) = true from beq_iff_eq.mpr h2, cond_true, cond_true]
    have hx := f.ac h2
    refine (scan_run (step := impl_Session_take.s0 k) (x.2.2.2.2.length : Int) (fun i (r : List Bool) => (x.2.2.2.2, (x.2.2.2.2.length : Int), i, s.B, s.y, s.dn, r, s.g, s.wy, s.bk)) (fun i r => some (s.B, s.y, allB (r.take i.toNat ++ orL (r.drop i.toNat) (x.2.2.2.2.drop i.toNat)), r.take i.toNat ++ orL (r.drop i.toNat) (x.2.2.2.2.drop i.toNat), s.g, s.wy, s.bk)) (fun i r => r.length = x.2.2.2.2.length) ?_ k 0 s.a (Int.le_refl _) (by omega) (by omega) (by omega)).trans ?_
    · intro rec i r h0 h1 hJ ih
      unfold impl_Session_take.s0
      simp only []
      by_cases hlt : i < (x.2.2.2.2.length : Int)
      · have hw : w64 (i + 1) = i + 1 := w64_id (by omega) (by omega)
        have hor := or_step r x.2.2.2.2 i h0 hlt hJ
        have ih' := ih hlt (setI r i (rdOf false r i || rdOf false x.2.2.2.2 i)) (by rw [setI_len]; exact hJ)
        rw [hor] at ih'
        rw [bif_dec_t hlt, hw]
        simp only [grd_dec h0, grd_dec hlt, grd_dec (show i < (r.length : Int) by omega)]
        rw [← ih']
        cases rdOf false r i <;> rfl
      · have hi : i = (x.2.2.2.2.length : Int) := by omega
        subst hi
        rw [bif_dec_f (Int.lt_irrefl _), impl_isAll_eq r (by omega), Option.bind_some]
        simp only [Int.toNat_natCast]
        rw [List.drop_of_length_le (Nat.le_refl x.2.2.2.2.length), List.drop_of_length_le (l := r) (by omega), List.take_of_length_le (by omega)]
        simp only [orL, List.zipWith_nil_left, List.append_nil]
    · rfl
  · rw [show (x.1 == 2) = false from Bool.eq_false_iff.mpr (fun h => h2 (beq_iff_eq.mp h)), cond_false, cond_false]
    have hx := f.nm h2
    rw [grd_dec hx.1, grd_dec hx.2, impl_bytes_eq s.B s.a _ s.y s.dn s.wy s.bk (by have := f.sz; omega) (by rw [setI_len]; exact hgl), Option.bind_some]
    unfold Ses.out
    cases x.2.2.2.1 with
    | false => rfl
    | true =>
      simp only [cond_true]
      by_cases hb : s.bk.length < 30
      · rw [bif_dec_t (show (s.bk.length : Int) < 30 by omega), bif_dec_t hb]
        have : cloneF 1 (setI s.g x.2.1 true) = some (setI s.g x.2.1 true) := by
          unfold cloneF
          rw [setI_len]
          exact bif_dec_t (by omega) _ _
        rw [this, Option.bind_some, grd_dec (by omega)]
      · rw [bif_dec_f (show ¬ (s.bk.length : Int) < 30 by omega), bif_dec_f hb]
theorem spec_come_eq (s : Ses) (x : SEG) (f : Fit s x) : spec_l5Come s.B s.y s.dn x.1 x.2.1 x.2.2.1 x.2.2.2.1 x.2.2.2.2 s.a s.g s.wy s.bk = some (comeN x s).out := by
  have hm5 : manyN s.B ≤ 5 := by have := f.sz; unfold manyN; omega
  have hgl := f.gl
  have hal := f.al
  have hbl := f.bl
  refine lim_eq (x.2.2.2.2.length + 1) fun k hk => ?_
  unfold spec_l5Come.g comeN
  by_cases h2 : x.1 = 2
  · rw [show (x.1 == 2) = true from beq_iff_eq.mpr h2, cond_true, cond_true]
    have hx := f.ac h2
    refine (scan_run (step := spec_l5Come.s0 k) (x.2.2.2.2.length : Int) (fun i (r : List Bool) => (x.2.2.2.2, (x.2.2.2.2.length : Int), i, r, s.g, s.wy, s.bk, s.B, s.y, s.dn, emp, emp, false)) (fun i r => some (s.B, s.y, allB (r.take i.toNat ++ orL (r.drop i.toNat) (x.2.2.2.2.drop i.toNat)), r.take i.toNat ++ orL (r.drop i.toNat) (x.2.2.2.2.drop i.toNat), s.g, s.wy, s.bk)) (fun i r => r.length = x.2.2.2.2.length) ?_ k 0 s.a (Int.le_refl _) (by omega) (by omega) (by omega)).trans ?_
    · intro rec i r h0 h1 hJ ih
      unfold spec_l5Come.s0
      simp only []
      by_cases hlt : i < (x.2.2.2.2.length : Int)
      · have hw : w64 (i + 1) = i + 1 := w64_id (by omega) (by omega)
        have hor := or_step r x.2.2.2.2 i h0 hlt hJ
        have ih' := ih hlt (setI r i (rdOf false r i || rdOf false x.2.2.2.2 i)) (by rw [setI_len]; exact hJ)
        rw [hor] at ih'
        rw [bif_dec_t hlt, hw]
        simp only [grd_dec h0, grd_dec hlt, grd_dec (show i < (r.length : Int) by omega)]
        rw [← ih']
        cases rdOf false r i <;> rfl
      · have hi : i = (x.2.2.2.2.length : Int) := by omega
        subst hi
        rw [bif_dec_f (Int.lt_irrefl _), spec_l5AllTrue_eq r (by omega), Option.bind_some]
        simp only [Int.toNat_natCast]
        rw [List.drop_of_length_le (Nat.le_refl x.2.2.2.2.length), List.drop_of_length_le (l := r) (by omega), List.take_of_length_le (by omega)]
        simp only [orL, List.zipWith_nil_left, List.append_nil]
    · rfl
  · rw [show (x.1 == 2) = false from Bool.eq_false_iff.mpr (fun h => h2 (beq_iff_eq.mp h)), cond_false, cond_false]
    have hx := f.nm h2
    rw [grd_dec hx.1, grd_dec hx.2, spec_bytes_eq s.B s.a _ s.y s.dn s.wy s.bk (by have := f.sz; omega) (by rw [setI_len]; exact hgl), Option.bind_some]
    unfold Ses.out
    cases x.2.2.2.1 with
    | false => rfl
    | true =>
      simp only [cond_true]
      by_cases hb : s.bk.length < 30
      · rw [bif_dec_t (show (s.bk.length : Int) < 30 by omega), bif_dec_t hb, grd_dec (by rw [setI_len]; omega), grd_dec (by omega), List.nil_append]
      · rw [bif_dec_f (show ¬ (s.bk.length : Int) < 30 by omega), bif_dec_f hb]
/-! the lists' own copies -/
theorem spec_own_eq (l : List SEG) (hl : l.length ≤ 1000000) (h : ∀ x ∈ l, x.2.2.2.2.length ≤ 1000000) : spec_l5OwnSegments l = some l := by
  refine lim_eq (l.length + 1) fun k hk => ?_
  unfold spec_l5OwnSegments.g
  refine (scan_run (step := spec_l5OwnSegments.s0 k) (l.length : Int) (fun i (r : List SEG) => (l, (l.length : Int), i, r)) (fun i r => some (r ++ l.drop i.toNat)) (fun i r => (r.length : Int) = i) ?_ k 0 [] (Int.le_refl _) (by omega) (by simp) (by omega)).trans ?_
  · intro rec i r h0 h1 hJ ih
    unfold spec_l5OwnSegments.s0
    simp only []
    by_cases hlt : i < (l.length : Int)
    · have hw : w64 (i + 1) = i + 1 := w64_id (by omega) (by omega)
      have hm : rdOf seg0 l i ∈ l := by
        unfold rdOf
        have hh : i.toNat < l.length := by omega
        rw [List.getD_eq_getElem?_getD, List.getElem?_eq_getElem hh]
        exact List.getElem_mem hh
      have hx : (rdOf ((0, 0, emp, false, []) : SEG) l i).2.2.2.2.length ≤ 1000000 := h _ hm
      rw [bif_dec_t hlt, grd_dec h0, grd_dec hlt, grd_dec (by omega), grd_dec (by omega), hw]
      rw [ih hlt _ (by rw [List.length_append]; simp; omega), dropI seg0 l i h0 hlt, List.append_assoc]
      rfl
    · rw [bif_dec_f hlt, dropE l i (by omega), List.append_nil]
  · simp
theorem impl_copied1_eq (x : SEG) (h : x.2.2.2.2.length ≤ 1000000) : impl_Segment_copied x.1 x.2.1 x.2.2.1 x.2.2.2.1 x.2.2.2.2 = some x := by
  unfold impl_Segment_copied cloneF
  rw [bif_dec_t (by omega)]
  rfl
theorem impl_copied_eq (s : Ses) (ha : s.a.length ≤ 1000000) (hg : s.g.length ≤ 1000000) (hwl : s.wy.length ≤ 1000000) (hbl : s.bk.length ≤ 1000000) (hw : ∀ x ∈ s.wy, x.2.2.2.2.length ≤ 1000000) (hb : ∀ x ∈ s.bk, x.2.2.2.2.length ≤ 1000000) : impl_Session_copied s.B s.a s.g s.y s.dn s.wy s.bk = some s.out := by
  refine lim_eq (s.wy.length + s.bk.length + 1) fun k hk => ?_
  unfold impl_Session_copied.g
  have c1 : cloneF 1 s.a = some s.a := by unfold cloneF; exact bif_dec_t (by omega) _ _
  have c2 : cloneF 1 s.g = some s.g := by unfold cloneF; exact bif_dec_t (by omega) _ _
  rw [c1, c2, Option.bind_some, Option.bind_some]
  refine (scan_run (step := impl_Session_copied.s0 k) (s.wy.length : Int) (fun i (r : List SEG) => (s.wy, (s.wy.length : Int), i, s.B, s.y, s.dn, s.wy, s.bk, emp, emp, false, r, [], s.a, s.g)) (fun i r => some (s.B, s.y, s.dn, s.a, s.g, r ++ s.wy.drop i.toNat, s.bk)) (fun i r => (r.length : Int) = i) ?_ k 0 [] (Int.le_refl _) (by omega) (by simp) (by omega)).trans ?_
  · intro rec i r h0 h1 hJ ih
    unfold impl_Session_copied.s0
    simp only []
    by_cases hlt : i < (s.wy.length : Int)
    · have hw1 : w64 (i + 1) = i + 1 := w64_id (by omega) (by omega)
      have hm : rdOf seg0 s.wy i ∈ s.wy := by
        unfold rdOf
        have hh : i.toNat < s.wy.length := by omega
        rw [List.getD_eq_getElem?_getD, List.getElem?_eq_getElem hh]
        exact List.getElem_mem hh
      rw [bif_dec_t hlt, grd_dec h0, grd_dec hlt, impl_copied1_eq _ (hw _ hm), Option.bind_some]
      show grd _ _ = _
      rw [grd_dec (by omega), hw1, ih hlt _ (by rw [List.length_append]; simp; omega), dropI seg0 s.wy i h0 hlt, List.append_assoc]
      rfl
    · rw [bif_dec_f hlt, dropE s.wy i (by omega), List.append_nil]
      refine (scan_run (step := impl_Session_copied.s2 k) (s.bk.length : Int) (fun i (q : List SEG) => (s.bk, (s.bk.length : Int), i, s.B, s.y, s.dn, s.wy, s.bk, emp, emp, false, r, q, s.a, s.g)) (fun i q => some (s.B, s.y, s.dn, s.a, s.g, r, q ++ s.bk.drop i.toNat)) (fun i q => (q.length : Int) = i) ?_ k 0 [] (Int.le_refl _) (by omega) (by simp) (by omega)).trans ?_
      · intro rec i q h0 h1 hJ ih
        unfold impl_Session_copied.s2
        simp only []
        by_cases hlt : i < (s.bk.length : Int)
        · have hw1 : w64 (i + 1) = i + 1 := w64_id (by omega) (by omega)
          have hm : rdOf seg0 s.bk i ∈ s.bk := by
            unfold rdOf
            have hh : i.toNat < s.bk.length := by omega
            rw [List.getD_eq_getElem?_getD, List.getElem?_eq_getElem hh]
            exact List.getElem_mem hh
          rw [bif_dec_t hlt, grd_dec h0, grd_dec hlt, impl_copied1_eq _ (hb _ hm), Option.bind_some]
          show grd _ _ = _
          rw [grd_dec (by omega), hw1, ih hlt _ (by rw [List.length_append]; simp; omega), dropI seg0 s.bk i h0 hlt, List.append_assoc]
          rfl
        · rw [bif_dec_f hlt, dropE s.bk i (by omega), List.append_nil]
      · simp
  · simp [Ses.out]
/-! ### sessions: the step and what it keeps -/
theorem str_inj {x y : ByteArray} (h : x.toList = y.toList) : x = y := (str_beq x y).mp (beq_iff_eq.mpr h)
structure Gd (s : Ses) : Prop where
  s1 : 1 ≤ s.B.size
  sz : s.B.size ≤ 40
  gl : s.g.length = manyN s.B
  be : belowB s.a s.g = true
  yy : s.y = bytesN s.B s.g
  dd : s.dn = allB s.a
  wl : s.wy.length ≤ 30
  bl : s.bk.length ≤ 30
  ww : ∀ x ∈ s.wy, wayB s.B x = true
  bb : ∀ x ∈ s.bk, backB s.g x = true
theorem good_iff (s : Ses) : s.good = true ↔ Gd s := by
  unfold Ses.good goodN
  simp only [Bool.and_eq_true, decide_eq_true_eq, str_beq, beq_iff_eq, List.all_eq_true]
  exact ⟨fun ⟨⟨⟨⟨⟨⟨⟨⟨⟨h1, h2⟩, h3⟩, h4⟩, h5⟩, h6⟩, h7⟩, h8⟩, h9⟩, h10⟩ => ⟨h1, h2, h3, h4, str_inj h5, h6, h7, h8, h9, h10⟩, fun h => ⟨⟨⟨⟨⟨⟨⟨⟨⟨h.s1, h.sz⟩, h.gl⟩, h.be⟩, congrArg _ h.yy⟩, h.dd⟩, h.wl⟩, h.bl⟩, h.ww⟩, h.bb⟩⟩
theorem below_len {a b : List Bool} (h : belowB a b = true) : a.length = b.length := by unfold belowB at h; simp at h; exact h.1
theorem Gd.al {s : Ses} (h : Gd s) : s.a.length = s.g.length := below_len h.be
theorem Gd.g5 {s : Ses} (h : Gd s) : s.g.length ≤ 5 := by have := h.gl; have := h.sz; unfold manyN at *; omega
theorem way_parts {B : ByteArray} {x : SEG} (h : wayB B x = true) : x.1 = 1 ∧ 0 ≤ x.2.1 ∧ x.2.1 < (manyN B : Int) ∧ x.2.2.1 = segN B x.2.1 ∧ x.2.2.2.2.length = 0 := by
  unfold wayB at h
  simp only [Bool.and_eq_true, decide_eq_true_eq, str_beq, beq_iff_eq] at h
  exact ⟨h.1.1.1.1, h.1.1.1.2, h.1.1.2, str_inj h.1.2, h.2⟩
theorem back_parts {g : List Bool} {x : SEG} (h : backB g x = true) : x.1 = 2 ∧ belowB x.2.2.2.2 g = true := by
  unfold backB at h
  simp only [Bool.and_eq_true, decide_eq_true_eq, str_beq, beq_iff_eq] at h
  exact ⟨h.1.1.1.1, h.2⟩
def inB (s : Ses) (x : SEG) : Prop := wayB s.B x = true ∨ backB s.g x = true
theorem fit_of {s : Ses} {x : SEG} (h : Gd s) (hx : inB s x) : Fit s x := by
  refine ⟨h.sz, h.gl, h.al, h.wl, h.bl, fun h2 => ?_, fun h2 => ?_⟩
  · rcases hx with hx | hx
    · have := (way_parts hx).1; omega
    · have := below_len (back_parts hx).2; have := h.al; omega
  · rcases hx with hx | hx
    · have := way_parts hx; have := h.gl; omega
    · exact absurd (back_parts hx).1 h2
/-! below, element by element -/
theorem belowGo_iff : ∀ (a b : List Bool), a.length = b.length → (belowGo a b = true ↔ ∀ i, a.getD i false = true → b.getD i false = true)
  | [], [], _ => by simp [belowGo]
  | x :: a, y :: b, h => by
    have ih := belowGo_iff a b (by simpa using h)
    rw [belowGo, Bool.and_eq_true, ih]
    constructor
    · intro ⟨h1, h2⟩ i
      cases i with
      | zero => intro hx; have hx : x = true := hx; subst hx; exact h1
      | succ i => exact h2 i
    · intro h
      refine ⟨?_, fun i => h (i + 1)⟩
      have := h 0
      cases x with
      | false => rfl
      | true => exact this rfl
  | [], _ :: _, h => by simp at h
  | _ :: _, [], h => by simp at h
theorem below_iff (a b : List Bool) : belowB a b = true ↔ a.length = b.length ∧ ∀ i, a.getD i false = true → b.getD i false = true := by
  unfold belowB
  rw [Bool.and_eq_true, decide_eq_true_eq]
  constructor
  · intro ⟨h1, h2⟩; exact ⟨h1, (belowGo_iff a b h1).mp h2⟩
  · intro ⟨h1, h2⟩; exact ⟨h1, (belowGo_iff a b h1).mpr h2⟩
theorem below_self (a : List Bool) : belowB a a = true := (below_iff a a).mpr ⟨rfl, fun _ h => h⟩
theorem orL_len {a b : List Bool} (h : a.length = b.length) : (orL a b).length = a.length := by unfold orL; rw [List.length_zipWith]; omega
theorem orL_get : ∀ (a b : List Bool) (i : Nat), a.length = b.length → (orL a b).getD i false = (a.getD i false || b.getD i false)
  | [], [], i, _ => by simp [orL]
  | x :: a, y :: b, 0, _ => rfl
  | x :: a, y :: b, i + 1, h => orL_get a b i (by simpa using h)
  | [], _ :: _, _, h => by simp at h
  | _ :: _, [], _, h => by simp at h
theorem below_or {a x g : List Bool} (h1 : belowB a g = true) (h2 : belowB x g = true) : belowB (orL a x) g = true := by
  have e1 := (below_iff _ _).mp h1
  have e2 := (below_iff _ _).mp h2
  refine (below_iff _ _).mpr ⟨by rw [orL_len (by omega)]; exact e1.1, fun i hi => ?_⟩
  rw [orL_get a x i (by omega), Bool.or_eq_true] at hi
  exact hi.elim (e1.2 i) (e2.2 i)
theorem setI_get (g : List Bool) (i : Int) (j : Nat) : (setI g i true).getD j false = (bif decide (j = i.toNat ∧ j < g.length) then true else g.getD j false) := by
  unfold setI
  rw [List.getD_eq_getElem?_getD, List.getElem?_set, List.getD_eq_getElem?_getD]
  by_cases h : i.toNat = j
  · subst h
    by_cases h2 : i.toNat < g.length
    · simp [h2]
    · simp [h2]
  · rw [if_neg h, bif_dec_f (by omega)]
theorem below_set (g : List Bool) (i : Int) : belowB g (setI g i true) = true := by
  refine (below_iff _ _).mpr ⟨by rw [setI_len], fun j hj => ?_⟩
  rw [setI_get]
  cases decide (j = i.toNat ∧ j < g.length) with
  | true => rfl
  | false => exact hj
theorem below_trans {a b c : List Bool} (h1 : belowB a b = true) (h2 : belowB b c = true) : belowB a c = true := by
  have e1 := (below_iff _ _).mp h1
  have e2 := (below_iff _ _).mp h2
  exact (below_iff _ _).mpr ⟨e1.1.trans e2.1, fun i hi => e2.2 i (e1.2 i hi)⟩
theorem back_mono {g g' : List Bool} {x : SEG} (h : belowB g g' = true) (hx : backB g x = true) : backB g' x = true := by
  unfold backB at hx ⊢
  rw [Bool.and_eq_true] at hx ⊢
  exact ⟨hx.1, below_trans hx.2 h⟩
theorem come_gd {s : Ses} {x : SEG} (h : Gd s) (hx : inB s x) : Gd (comeN x s) := by
  unfold comeN
  rcases hx with hx | hx
  · have hp := way_parts hx
    rw [hp.1, show ((1 : Int) == 2) = false from rfl, cond_false]
    have hb : ∀ z ∈ s.bk, backB (setI s.g x.2.1 true) z = true := fun z hz => back_mono (below_set _ _) (h.bb z hz)
    refine ⟨h.s1, h.sz, by rw [setI_len]; exact h.gl, below_trans h.be (below_set _ _), rfl, h.dd, h.wl, ?_, h.ww, ?_⟩
    · show (bif x.2.2.2.1 then bif decide (s.bk.length < 30) then _ else _ else _ : List SEG).length ≤ 30
      have := h.bl
      cases x.2.2.2.1 with
      | false => exact this
      | true =>
        by_cases hl : s.bk.length < 30
        · rw [cond_true, bif_dec_t hl, List.length_append]; simp; omega
        · rw [cond_true, bif_dec_f hl]; exact this
    · show ∀ z ∈ (bif x.2.2.2.1 then bif decide (s.bk.length < 30) then _ else _ else _ : List SEG), _
      cases x.2.2.2.1 with
      | false => exact hb
      | true =>
        by_cases hl : s.bk.length < 30
        · rw [cond_true, bif_dec_t hl]
          intro z hz
          rcases List.mem_append.mp hz with hz | hz
          · exact hb z hz
          · have : z = (2, 0, emp, false, setI s.g x.2.1 true) := List.mem_singleton.mp hz
            subst this
            show (true && true && (emp.toList == emp.toList) && true && belowB (setI s.g x.2.1 true) (setI s.g x.2.1 true)) = true
            rw [str_self, below_self]
            rfl
        · rw [cond_true, bif_dec_f hl]; exact hb
  · have hp := back_parts hx
    rw [hp.1, show ((2 : Int) == 2) = true from rfl, cond_true]
    exact ⟨h.s1, h.sz, h.gl, below_or h.be hp.2, h.yy, rfl, h.wl, h.bl, h.ww, h.bb⟩
/-! what is left -/
theorem leftGo_nil : ∀ (l : List Bool) (i : Int), (leftGo i l).length = 0 ↔ allB l = true
  | [], _ => by simp [leftGo, allB]
  | b :: r, i => by
    have := leftGo_nil r (i + 1)
    cases b with
    | true => simpa [leftGo, allB] using this
    | false => simp [leftGo, allB]
theorem mem_leftGo : ∀ (l : List Bool) (i x : Int), x ∈ leftGo i l ↔ i ≤ x ∧ x < i + l.length ∧ l.getD (x - i).toNat false = false
  | [], i, x => by simp [leftGo]
  | b :: r, i, x => by
    have ih := mem_leftGo r (i + 1) x
    by_cases hx : x = i
    · subst hx
      have : ¬ x ∈ leftGo (x + 1) r := fun h => by have := ih.mp h; omega
      cases b with
      | true => simp [leftGo, this]
      | false => simp [leftGo]; omega
    · have e : x ∈ leftGo i (b :: r) ↔ x ∈ leftGo (i + 1) r := by
        cases b with
        | true => simp [leftGo]
        | false => simp [leftGo, hx]
      rw [e, ih]
      by_cases hi : i ≤ x
      · rw [show (x - i).toNat = (x - (i + 1)).toNat + 1 by omega]
        simp only [List.length_cons, List.getD_cons_succ]
        constructor
        · intro ⟨h1, h2, h3⟩; exact ⟨hi, by omega, h3⟩
        · intro ⟨h1, h2, h3⟩; exact ⟨by omega, by omega, h3⟩
      · constructor
        · intro ⟨h1, _⟩; omega
        · intro ⟨h1, _⟩; omega
def sendGo (B : ByteArray) (n : Int) : Int → List Int → List SEG
  | _, [] => []
  | i, x :: r => (1, x, segN B x, i == n - 1, []) :: sendGo B n (i + 1) r
def sendN (B : ByteArray) (L : List Int) : List SEG := sendGo B L.length 0 L
theorem sendGo_len (B : ByteArray) (n : Int) : ∀ (L : List Int) (i : Int), (sendGo B n i L).length = L.length
  | [], _ => rfl
  | _ :: r, i => by simp [sendGo, sendGo_len B n r (i + 1)]
theorem sendGo_way (B : ByteArray) (n : Int) : ∀ (L : List Int) (i : Int), (∀ x ∈ L, 0 ≤ x ∧ x < (manyN B : Int)) → ∀ z ∈ sendGo B n i L, wayB B z = true
  | [], _, _ => by simp [sendGo]
  | x :: r, i, h => by
    intro z hz
    rcases List.mem_cons.mp hz with hz | hz
    · subst hz
      have := h x (List.mem_cons_self ..)
      unfold wayB
      simp only [decide_eq_true this.1, decide_eq_true this.2, str_self]
      rfl
    · exact sendGo_way B n r (i + 1) (fun y hy => h y (List.mem_cons_of_mem _ hy)) z hz
theorem send_way {s : Ses} (h : Gd s) : ∀ z ∈ sendN s.B (leftN s.a), wayB s.B z = true := by
  refine sendGo_way s.B _ _ _ fun x hx => ?_
  have := (mem_leftGo s.a 0 x).mp hx
  have := h.al
  have := h.gl
  omega
def stepN (c : Int × Bool × Int) (s : Ses) : Bool × Ses :=
  bif c.1 == 1 then
    bif decide ((leftN s.a).length = 0) then (false, s) else
    bif decide (s.wy.length + (leftN s.a).length > 30) then (false, s) else (true, { s with wy := s.wy ++ sendN s.B (leftN s.a) })
  else
  bif !(decide (2 ≤ c.1) && decide (c.1 ≤ 4)) then (false, s) else
  bif c.2.1 then
    bif !(decide (0 ≤ c.2.2) && decide (c.2.2 < (s.bk.length : Int))) then (false, s) else
    bif c.1 == 4 then bif decide (s.bk.length = 30) then (false, s) else (true, { s with bk := s.bk ++ [rdOf seg0 s.bk c.2.2] })
    else bif c.1 == 2 then (true, comeN (rdOf seg0 s.bk c.2.2) { s with bk := s.bk.eraseIdx c.2.2.toNat }) else (true, { s with bk := s.bk.eraseIdx c.2.2.toNat })
  else
    bif !(decide (0 ≤ c.2.2) && decide (c.2.2 < (s.wy.length : Int))) then (false, s) else
    bif c.1 == 4 then bif decide (s.wy.length = 30) then (false, s) else (true, { s with wy := s.wy ++ [rdOf seg0 s.wy c.2.2] })
    else bif c.1 == 2 then (true, comeN (rdOf seg0 s.wy c.2.2) { s with wy := s.wy.eraseIdx c.2.2.toNat }) else (true, { s with wy := s.wy.eraseIdx c.2.2.toNat })
theorem rd_mem {α : Type} (d : α) (l : List α) (i : Int) (h0 : 0 ≤ i) (h1 : i < (l.length : Int)) : rdOf d l i ∈ l := by
  unfold rdOf
  have hh : i.toNat < l.length := by omega
  rw [List.getD_eq_getElem?_getD, List.getElem?_eq_getElem hh]
  exact List.getElem_mem hh
theorem erase_len {α : Type} (l : List α) (i : Nat) : (l.eraseIdx i).length ≤ l.length := by rw [List.length_eraseIdx]; split <;> omega
theorem gd_wy {s : Ses} (h : Gd s) (l : List SEG) (h1 : l.length ≤ 30) (h2 : ∀ x ∈ l, wayB s.B x = true) : Gd { s with wy := l } := ⟨h.s1, h.sz, h.gl, h.be, h.yy, h.dd, h1, h.bl, h2, h.bb⟩
theorem gd_bk {s : Ses} (h : Gd s) (l : List SEG) (h1 : l.length ≤ 30) (h2 : ∀ x ∈ l, backB s.g x = true) : Gd { s with bk := l } := ⟨h.s1, h.sz, h.gl, h.be, h.yy, h.dd, h.wl, h1, h.ww, h2⟩
theorem gd_wye {s : Ses} (h : Gd s) (i : Nat) : Gd { s with wy := s.wy.eraseIdx i } := gd_wy h _ (by have := erase_len s.wy i; have := h.wl; omega) (fun x hx => h.ww x (List.mem_of_mem_eraseIdx hx))
theorem gd_bke {s : Ses} (h : Gd s) (i : Nat) : Gd { s with bk := s.bk.eraseIdx i } := gd_bk h _ (by have := erase_len s.bk i; have := h.bl; omega) (fun x hx => h.bb x (List.mem_of_mem_eraseIdx hx))
theorem step_gd {s : Ses} (c : Int × Bool × Int) (h : Gd s) : Gd (stepN c s).2 := by
  unfold stepN
  cases c.1 == 1 with
  | true =>
    rw [cond_true]
    by_cases h1 : (leftN s.a).length = 0
    · rw [bif_dec_t h1]; exact h
    · rw [bif_dec_f h1]
      by_cases h2 : s.wy.length + (leftN s.a).length > 30
      · rw [bif_dec_t h2]; exact h
      · rw [bif_dec_f h2]
        refine gd_wy h _ (by rw [List.length_append]; unfold sendN; rw [sendGo_len]; omega) fun x hx => ?_
        rcases List.mem_append.mp hx with hx | hx
        · exact h.ww x hx
        · exact send_way h x hx
  | false =>
    rw [cond_false]
    cases !(decide (2 ≤ c.1) && decide (c.1 ≤ 4)) with
    | true => exact h
    | false =>
      rw [cond_false]
      cases c.2.1 with
      | true =>
        rw [cond_true]
        by_cases hr : 0 ≤ c.2.2 ∧ c.2.2 < (s.bk.length : Int)
        · rw [decide_eq_true hr.1, decide_eq_true hr.2]
          simp only [Bool.and_self, Bool.not_true, cond_false]
          have hm := rd_mem seg0 s.bk c.2.2 hr.1 hr.2
          cases c.1 == 4 with
          | true =>
            rw [cond_true]
            by_cases h3 : s.bk.length = 30
            · rw [bif_dec_t h3]; exact h
            · rw [bif_dec_f h3]
              refine gd_bk h _ (by have := h.bl; rw [List.length_append]; simp; omega) fun x hx => ?_
              rcases List.mem_append.mp hx with hx | hx
              · exact h.bb x hx
              · have := List.mem_singleton.mp hx; subst this; exact h.bb _ hm
          | false =>
            rw [cond_false]
            cases c.1 == 2 with
            | true => exact come_gd (gd_bke h _) (Or.inr (h.bb _ hm))
            | false => exact gd_bke h _
        · have : (decide (0 ≤ c.2.2) && decide (c.2.2 < (s.bk.length : Int))) = false := by simp; omega
          rw [this]; exact h
      | false =>
        rw [cond_false]
        by_cases hr : 0 ≤ c.2.2 ∧ c.2.2 < (s.wy.length : Int)
        · rw [decide_eq_true hr.1, decide_eq_true hr.2]
          simp only [Bool.and_self, Bool.not_true, cond_false]
          have hm := rd_mem seg0 s.wy c.2.2 hr.1 hr.2
          cases c.1 == 4 with
          | true =>
            rw [cond_true]
            by_cases h3 : s.wy.length = 30
            · rw [bif_dec_t h3]; exact h
            · rw [bif_dec_f h3]
              refine gd_wy h _ (by have := h.wl; rw [List.length_append]; simp; omega) fun x hx => ?_
              rcases List.mem_append.mp hx with hx | hx
              · exact h.ww x hx
              · have := List.mem_singleton.mp hx; subst this; exact h.ww _ hm
          | false =>
            rw [cond_false]
            cases c.1 == 2 with
            | true => exact come_gd (gd_wye h _) (Or.inl (h.ww _ hm))
            | false => exact gd_wye h _
        · have : (decide (0 ≤ c.2.2) && decide (c.2.2 < (s.wy.length : Int))) = false := by simp; omega
          rw [this]; exact h
/-! ### sessions: both steps -/
theorem grd_tt {ρ : Type} (x : Option ρ) : grd true x = x := rfl
theorem delF_eq {α : Type} (l : List α) (i : Int) (h0 : 0 ≤ i) (h1 : i < (l.length : Int)) (h : l.length ≤ 1000000) : delF l i (i + 1) = some (l.eraseIdx i.toNat) := by
  unfold delF
  rw [decide_eq_true h0, decide_eq_true h1, decide_eq_true h, show (i + 1 == i + 1) = true from beq_self_eq_true _]
  rfl
theorem outF_eq {α : Type} (l : List α) (i : Int) (h0 : 0 ≤ i) (h1 : i < (l.length : Int)) (h : l.length ≤ 1000000) : outF l i = some (l.eraseIdx i.toNat) := delF_eq l i h0 h1 h
theorem left_len (s : Ses) : (leftN s.a).length ≤ s.a.length := leftGo_len s.a 0
theorem left_mem {s : Ses} (h : Gd s) (i : Int) (h0 : 0 ≤ i) (h1 : i < ((leftN s.a).length : Int)) : 0 ≤ rdOf 0 (leftN s.a) i ∧ rdOf 0 (leftN s.a) i * 8 ≤ (s.B.size : Int) := by
  have := (mem_leftGo s.a 0 _).mp (rd_mem 0 (leftN s.a) i h0 h1)
  have := h.al
  have := h.gl
  unfold manyN at *
  omega
theorem dn_left {s : Ses} (h : Gd s) : s.dn = decide ((leftN s.a).length = 0) := by
  rw [h.dd]
  have : (leftN s.a).length = 0 ↔ allB s.a = true := leftGo_nil s.a 0
  cases ha : allB s.a with
  | true => rw [decide_eq_true (this.mpr ha)]
  | false => rw [decide_eq_false (fun hh => by have := this.mp hh; rw [ha] at this; cases this)]
theorem way_x4 {s : Ses} (h : Gd s) {x : SEG} (hx : x ∈ s.wy) : x.2.2.2.2.length ≤ 1000000 := by have := (way_parts (h.ww x hx)).2.2.2.2; omega
theorem back_x4 {s : Ses} (h : Gd s) {x : SEG} (hx : x ∈ s.bk) : x.2.2.2.2.length ≤ 1000000 := by have := below_len (back_parts (h.bb x hx)).2; have := h.g5; omega
theorem impl_step_eq (c : Int × Bool × Int) (s : Ses) (h : Gd s) : impl_Session_step c.1 c.2.1 c.2.2 s.B s.y s.dn s.a s.g s.wy s.bk = some ((stepN c s).1, (stepN c s).2.out) := by
  refine lim_eq (s.a.length + 1) fun k hk => ?_
  have hwl := h.wl
  have hbl := h.bl
  have hg5 := h.g5
  have hal := h.al
  have hll := left_len s
  unfold impl_Session_step.g stepN
  cases hc1 : c.1 == 1 with
  | true =>
    rw [cond_true, cond_true, impl_left_eq s.B s.a s.g s.y s.dn s.wy s.bk (by omega), Option.bind_some, dn_left h, w64_id (by omega) (by omega)]
    by_cases h1 : (leftN s.a).length = 0
    · rw [bif_dec_t h1, bif_dec_t h1, decide_eq_true h1]
      have : s.dn = true := by rw [dn_left h]; exact decide_eq_true h1
      unfold Ses.out
      rw [this]
    · rw [bif_dec_f h1, bif_dec_f h1, decide_eq_false h1]
      have hd : s.dn = false := by rw [dn_left h]; exact decide_eq_false h1
      by_cases h2 : s.wy.length + (leftN s.a).length > 30
      · rw [bif_dec_t h2, bif_dec_t (by omega)]
        unfold Ses.out
        rw [hd]
      · rw [bif_dec_f h2, bif_dec_f (by omega)]
        refine (scan_run (step := impl_Session_step.s0 k) ((leftN s.a).length : Int) (fun i (r : List SEG) => (((leftN s.a).length : Int), i, s.B, s.y, false, s.a, s.g, r, s.bk, leftN s.a)) (fun i r => some (true, s.B, s.y, false, s.a, s.g, r ++ sendGo s.B (leftN s.a).length i ((leftN s.a).drop i.toNat), s.bk)) (fun i r => (r.length : Int) = s.wy.length + i) ?_ k 0 s.wy (Int.le_refl _) (by omega) (by omega) (by omega)).trans ?_
        · intro rec i r h0 h1 hJ ih
          unfold impl_Session_step.s0
          simp only []
          by_cases hlt : i < ((leftN s.a).length : Int)
          · have hm := left_mem h i h0 hlt
            rw [bif_dec_t hlt, grd_dec h0, grd_dec hlt, impl_segment_eq s.B _ hm.1 hm.2 (by have := h.sz; omega), Option.bind_some, grd_dec (by omega), w64_id (n := i + 1) (by omega) (by omega), w64_id (n := ((leftN s.a).length : Int) - 1) (by omega) (by omega), ih hlt _ (by rw [List.length_append]; simp; omega), dropI 0 (leftN s.a) i h0 hlt, sendGo, List.append_assoc]
            rfl
          · rw [bif_dec_f hlt, dropE _ i (by omega), sendGo, List.append_nil]
        · rfl
  | false =>
    rw [cond_false, cond_false]
    simp only [impl_within_eq, Option.bind_some]
    cases hc24 : decide (2 ≤ c.1) && decide (c.1 ≤ 4) with
    | false => cases c.2.1 <;> rfl
    | true =>
      simp only [Bool.not_true, cond_false]
      cases c.2.1 with
      | true =>
        simp only [cond_true]
        rw [w64_id (n := (s.bk.length : Int) - 1) (by omega) (by omega)]
        by_cases hr : 0 ≤ c.2.2 ∧ c.2.2 < (s.bk.length : Int)
        · have hm := rd_mem seg0 s.bk c.2.2 hr.1 hr.2
          rw [decide_eq_true hr.1, decide_eq_true hr.2, decide_eq_true (show c.2.2 ≤ (s.bk.length : Int) - 1 by omega)]
          simp only [Bool.and_self, Bool.not_true, cond_false, grd_tt]
          cases hc4 : c.1 == 4 with
          | true =>
            simp only [cond_true]
            by_cases h3 : s.bk.length = 30
            · rw [bif_dec_t h3, show ((s.bk.length : Int) == 30) = true from by rw [h3]; rfl, cond_true]
              rfl
            · rw [bif_dec_f h3, show ((s.bk.length : Int) == 30) = false from Bool.eq_false_iff.mpr (fun hh => h3 (by have := beq_iff_eq.mp hh; omega)), cond_false, impl_copied1_eq _ (back_x4 h hm), Option.bind_some]
              show grd _ _ = _
              rw [grd_dec (by omega)]
              rfl
          | false =>
            simp only [cond_false]
            rw [w64_id (n := c.2.2 + 1) (by omega) (by omega), delF_eq s.bk _ hr.1 hr.2 (by omega), Option.bind_some]
            cases hc2 : c.1 == 2 with
            | true =>
              simp only [cond_true]
              have := impl_take_eq { s with bk := s.bk.eraseIdx c.2.2.toNat } (rdOf seg0 s.bk c.2.2) (fit_of (gd_bke h _) (Or.inr (h.bb _ hm)))
              rw [this]
              rfl
            | false => rfl
        · have e1 : (decide (0 ≤ c.2.2) && decide (c.2.2 < (s.bk.length : Int))) = false := by simp; omega
          have e2 : (decide (0 ≤ c.2.2) && decide (c.2.2 ≤ (s.bk.length : Int) - 1)) = false := by simp; omega
          rw [e1, e2]; rfl
      | false =>
        simp only [cond_false]
        rw [w64_id (n := (s.wy.length : Int) - 1) (by omega) (by omega)]
        by_cases hr : 0 ≤ c.2.2 ∧ c.2.2 < (s.wy.length : Int)
        · have hm := rd_mem seg0 s.wy c.2.2 hr.1 hr.2
          rw [decide_eq_true hr.1, decide_eq_true hr.2, decide_eq_true (show c.2.2 ≤ (s.wy.length : Int) - 1 by omega)]
          simp only [Bool.and_self, Bool.not_true, cond_false, grd_tt]
          cases hc4 : c.1 == 4 with
          | true =>
            simp only [cond_true]
            by_cases h3 : s.wy.length = 30
            · rw [bif_dec_t h3, show ((s.wy.length : Int) == 30) = true from by rw [h3]; rfl, cond_true]
              rfl
            · rw [bif_dec_f h3, show ((s.wy.length : Int) == 30) = false from Bool.eq_false_iff.mpr (fun hh => h3 (by have := beq_iff_eq.mp hh; omega)), cond_false, impl_copied1_eq _ (way_x4 h hm), Option.bind_some]
              show grd _ _ = _
              rw [grd_dec (by omega)]
              rfl
          | false =>
            simp only [cond_false]
            rw [w64_id (n := c.2.2 + 1) (by omega) (by omega), delF_eq s.wy _ hr.1 hr.2 (by omega), Option.bind_some]
            cases hc2 : c.1 == 2 with
            | true =>
              simp only [cond_true]
              have := impl_take_eq { s with wy := s.wy.eraseIdx c.2.2.toNat } (rdOf seg0 s.wy c.2.2) (fit_of (gd_wye h _) (Or.inl (h.ww _ hm)))
              rw [this]
              rfl
            | false => rfl
        · have e1 : (decide (0 ≤ c.2.2) && decide (c.2.2 < (s.wy.length : Int))) = false := by simp; omega
          have e2 : (decide (0 ≤ c.2.2) && decide (c.2.2 ≤ (s.wy.length : Int) - 1)) = false := by simp; omega
          rw [e1, e2]; rfl
/-- the spec's order of a step's results -/
def outS (p : Bool × Ses) : ByteArray × ByteArray × Bool × Bool × List Bool × List Bool × List SEG × List SEG := (p.2.B, p.2.y, p.2.dn, p.1, p.2.a, p.2.g, p.2.wy, p.2.bk)
theorem spec_step_eq (c : Int × Bool × Int) (s : Ses) (h : Gd s) : spec_l5Step s.B s.y s.dn c.1 c.2.1 c.2.2 s.a s.g s.wy s.bk = some (outS (stepN c s)) := by
  refine lim_eq (s.a.length + 1) fun k hk => ?_
  have hwl := h.wl
  have hbl := h.bl
  have hg5 := h.g5
  have hal := h.al
  have hll := left_len s
  unfold spec_l5Step.g stepN
  cases hc1 : c.1 == 1 with
  | true =>
    rw [cond_true, cond_true, spec_left_eq s.B s.a s.g s.y s.dn s.wy s.bk (by omega), Option.bind_some, w64_id (by omega) (by omega)]
    by_cases h1 : (leftN s.a).length = 0
    · rw [bif_dec_t h1, show (((leftN s.a).length : Int) == 0) = true from by rw [h1]; rfl, cond_true]
      rfl
    · rw [bif_dec_f h1, show (((leftN s.a).length : Int) == 0) = false from Bool.eq_false_iff.mpr (fun hh => h1 (by have := beq_iff_eq.mp hh; omega)), cond_false]
      by_cases h2 : s.wy.length + (leftN s.a).length > 30
      · rw [bif_dec_t h2, bif_dec_t (by omega)]
        rfl
      · rw [bif_dec_f h2, bif_dec_f (by omega)]
        refine (scan_run (step := spec_l5Step.s0 k) ((leftN s.a).length : Int) (fun i (r : List SEG) => (((leftN s.a).length : Int), i, s.a, s.g, r, s.bk, s.B, s.y, s.dn, emp, emp, false, leftN s.a)) (fun i r => some (s.B, s.y, s.dn, true, s.a, s.g, r ++ sendGo s.B (leftN s.a).length i ((leftN s.a).drop i.toNat), s.bk)) (fun i r => (r.length : Int) = s.wy.length + i) ?_ k 0 s.wy (Int.le_refl _) (by omega) (by omega) (by omega)).trans ?_
        · intro rec i r h0 h1 hJ ih
          unfold spec_l5Step.s0
          simp only []
          by_cases hlt : i < ((leftN s.a).length : Int)
          · have hm := left_mem h i h0 hlt
            rw [bif_dec_t hlt, grd_dec h0, grd_dec hlt, spec_text_eq s.B _ _ _ _ _ _ _ hm.1 hm.2 (by have := h.sz; omega), Option.bind_some, grd_dec (by omega), w64_id (n := i + 1) (by omega) (by omega), w64_id (n := ((leftN s.a).length : Int) - 1) (by omega) (by omega), ih hlt _ (by rw [List.length_append]; simp; omega), dropI 0 (leftN s.a) i h0 hlt, sendGo, List.append_assoc]
            rfl
          · rw [bif_dec_f hlt, dropE _ i (by omega), sendGo, List.append_nil]
        · rfl
  | false =>
    rw [cond_false, cond_false]
    simp only [spec_l1In_eq, Option.bind_some]
    cases c.2.1 with
    | true =>
      simp only [cond_true]
      by_cases hr : 0 ≤ c.2.2 ∧ c.2.2 < (s.bk.length : Int)
      · have hm := rd_mem seg0 s.bk c.2.2 hr.1 hr.2
        rw [bif_dec_f (show ¬ c.2.2 < 0 by omega), bif_dec_f (show ¬ c.2.2 ≥ (s.bk.length : Int) by omega), decide_eq_true hr.1, decide_eq_true hr.2]
        cases hc24 : decide (2 ≤ c.1) && decide (c.1 ≤ 4) with
        | false => rfl
        | true =>
          simp only [Bool.and_self, Bool.not_true, cond_false, grd_tt]
          cases hc4 : c.1 == 4 with
          | true =>
            simp only [cond_true]
            have hc2 : (c.1 == 2) = false := by rw [beq_iff_eq.mp hc4]; rfl
            rw [hc2]
            by_cases h3 : s.bk.length = 30
            · rw [bif_dec_t h3, show ((s.bk.length : Int) == 30) = true from by rw [h3]; rfl, cond_true]
              rfl
            · rw [bif_dec_f h3, show ((s.bk.length : Int) == 30) = false from Bool.eq_false_iff.mpr (fun hh => h3 (by have := beq_iff_eq.mp hh; omega)), cond_false]
              have := spec_own_eq [rdOf seg0 s.bk c.2.2] (by simp) (fun x hx => by rw [List.mem_singleton.mp hx]; exact back_x4 h hm)
              show (spec_l5OwnSegments [rdOf seg0 s.bk c.2.2]).bind _ = _
              rw [this, Option.bind_some]
              show grd _ _ = _
              rw [grd_dec (by simp; omega)]
              rfl
          | false =>
            simp only [cond_false]
            rw [outF_eq s.bk _ hr.1 hr.2 (by omega), Option.bind_some]
            cases hc2 : c.1 == 2 with
            | true =>
              simp only [cond_true]
              have := spec_come_eq { s with bk := s.bk.eraseIdx c.2.2.toNat } (rdOf seg0 s.bk c.2.2) (fit_of (gd_bke h _) (Or.inr (h.bb _ hm)))
              show (spec_l5Come s.B s.y s.dn _ _ _ _ _ s.a s.g s.wy (s.bk.eraseIdx c.2.2.toNat)).bind _ = _
              rw [this]
              rfl
            | false => rfl
      · have e1 : (decide (0 ≤ c.2.2) && decide (c.2.2 < (s.bk.length : Int))) = false := by simp; omega
        rw [e1]
        have : (bif decide (c.2.2 < 0) then true else decide (c.2.2 ≥ (s.bk.length : Int))) = true := by
          by_cases hh : c.2.2 < 0
          · rw [bif_dec_t hh]
          · rw [bif_dec_f hh]; exact decide_eq_true (by omega)
        cases hc24 : decide (2 ≤ c.1) && decide (c.1 ≤ 4) <;> by_cases hh : c.2.2 < 0 <;> first | (rw [bif_dec_t hh]; rfl) | (rw [bif_dec_f hh, bif_dec_t (show c.2.2 ≥ (s.bk.length : Int) by omega)]; rfl)
    | false =>
      simp only [cond_false]
      by_cases hr : 0 ≤ c.2.2 ∧ c.2.2 < (s.wy.length : Int)
      · have hm := rd_mem seg0 s.wy c.2.2 hr.1 hr.2
        rw [bif_dec_f (show ¬ c.2.2 < 0 by omega), bif_dec_f (show ¬ c.2.2 ≥ (s.wy.length : Int) by omega), decide_eq_true hr.1, decide_eq_true hr.2]
        cases hc24 : decide (2 ≤ c.1) && decide (c.1 ≤ 4) with
        | false => rfl
        | true =>
          simp only [Bool.and_self, Bool.not_true, cond_false, grd_tt]
          cases hc4 : c.1 == 4 with
          | true =>
            simp only [cond_true]
            have hc2 : (c.1 == 2) = false := by rw [beq_iff_eq.mp hc4]; rfl
            rw [hc2]
            by_cases h3 : s.wy.length = 30
            · rw [bif_dec_t h3, show ((s.wy.length : Int) == 30) = true from by rw [h3]; rfl, cond_true]
              rfl
            · rw [bif_dec_f h3, show ((s.wy.length : Int) == 30) = false from Bool.eq_false_iff.mpr (fun hh => h3 (by have := beq_iff_eq.mp hh; omega)), cond_false]
              have := spec_own_eq [rdOf seg0 s.wy c.2.2] (by simp) (fun x hx => by rw [List.mem_singleton.mp hx]; exact way_x4 h hm)
              show (spec_l5OwnSegments [rdOf seg0 s.wy c.2.2]).bind _ = _
              rw [this, Option.bind_some]
              show grd _ _ = _
              rw [grd_dec (by simp; omega)]
              rfl
          | false =>
            simp only [cond_false]
            rw [outF_eq s.wy _ hr.1 hr.2 (by omega), Option.bind_some]
            cases hc2 : c.1 == 2 with
            | true =>
              simp only [cond_true]
              have := spec_come_eq { s with wy := s.wy.eraseIdx c.2.2.toNat } (rdOf seg0 s.wy c.2.2) (fit_of (gd_wye h _) (Or.inl (h.ww _ hm)))
              show (spec_l5Come s.B s.y s.dn _ _ _ _ _ s.a s.g (s.wy.eraseIdx c.2.2.toNat) s.bk).bind _ = _
              rw [this]
              rfl
            | false => rfl
      · have e1 : (decide (0 ≤ c.2.2) && decide (c.2.2 < (s.wy.length : Int))) = false := by simp; omega
        rw [e1]
        cases hc24 : decide (2 ≤ c.1) && decide (c.1 ≤ 4) <;> by_cases hh : c.2.2 < 0 <;> first | (rw [bif_dec_t hh]; rfl) | (rw [bif_dec_f hh, bif_dec_t (show c.2.2 ≥ (s.wy.length : Int) by omega)]; rfl)
/-! ### sessions: a new one, and a play -/
def sizeB (B : ByteArray) : Bool := decide (1 ≤ B.size) && decide (B.size ≤ 40)
def freshS (B : ByteArray) : Ses := ⟨B, strOfNums (List.replicate B.size 0), false, List.replicate (manyN B) false, List.replicate (manyN B) false, [], []⟩
def newN (B : ByteArray) : ByteArray × ByteArray × Bool × Bool × List Bool × List Bool :=
  bif sizeB B then (B, strOfNums (List.replicate B.size 0), false, true, List.replicate (manyN B) false, List.replicate (manyN B) false) else (emp, emp, false, false, [], [])
theorem size_int (B : ByteArray) : (decide ((1 : Int) ≤ (B.size : Int)) && decide ((B.size : Int) ≤ 40)) = sizeB B := by
  unfold sizeB
  congr 1 <;> rw [decide_eq_decide] <;> omega
theorem sizeB_iff {B : ByteArray} : sizeB B = true ↔ 1 ≤ B.size ∧ B.size ≤ 40 := by unfold sizeB; simp
theorem impl_New_eq (B : ByteArray) : impl_NewSession B = some (newN B) := by
  unfold impl_NewSession impl_isBlock newN
  rw [impl_within_eq, size_int, Option.bind_some, Option.bind_some]
  cases hs : sizeB B with
  | false => rfl
  | true =>
    have h := sizeB_iff.mp hs
    have h5 : manyN B ≤ 5 := by unfold manyN; omega
    simp only [Bool.not_true, cond_false, cond_true]
    rw [impl_many_eq B (by omega), Option.bind_some]
    simp only [grd_self]
    rw [grd_dec (by omega), grd_dec (by omega), grd_dec (by omega), grd_dec (by omega), grd_dec (by omega), grd_dec (by omega)]
    simp only [Int.toNat_natCast]
theorem spec_New_eq (B : ByteArray) : spec_NewSession B = some (newN B) := by
  unfold spec_NewSession newN
  rw [spec_l1In_eq, size_int, Option.bind_some]
  cases hs : sizeB B with
  | false => rfl
  | true =>
    have h := sizeB_iff.mp hs
    have h5 : manyN B ≤ 5 := by unfold manyN; omega
    simp only [Bool.not_true, cond_false, cond_true]
    rw [grd_self, grd_dec (by omega), grd_dec (by omega), spec_many_eq B _ _ _ _ _ _ (by omega), Option.bind_some, grd_self, grd_dec (by omega), grd_dec (by omega), spec_many_eq B _ _ _ _ _ _ (by omega), Option.bind_some, grd_self, grd_dec (by omega), grd_dec (by omega)]
    simp only [Int.toNat_natCast]
theorem fresh_gd {B : ByteArray} (hs : sizeB B = true) : Gd (freshS B) := by
  have h := sizeB_iff.mp hs
  have h1 : 1 ≤ manyN B := by unfold manyN; omega
  refine ⟨h.1, h.2, List.length_replicate, below_self _, ?_, ?_, Nat.zero_le _, Nat.zero_le _, fun x hx => absurd hx (List.not_mem_nil), fun x hx => absurd hx (List.not_mem_nil)⟩
  · show _ = bytesN B (List.replicate (manyN B) false)
    unfold bytesN
    rw [bytesL_none, bytesOf_length]
    rfl
  · show false = allB (List.replicate (manyN B) false)
    obtain ⟨n, hn⟩ : ∃ n, manyN B = n + 1 := ⟨manyN B - 1, by omega⟩
    rw [hn]
    rfl
theorem come_B (x : SEG) (s : Ses) : (comeN x s).B = s.B := by unfold comeN; cases x.1 == 2 <;> rfl
theorem come_wy (x : SEG) (s : Ses) : (comeN x s).wy = s.wy := by unfold comeN; cases x.1 == 2 <;> rfl
theorem step_false {c : Int × Bool × Int} {s : Ses} (h : (stepN c s).1 = false) : (stepN c s).2 = s := by
  revert h
  unfold stepN
  cases c.1 == 1 <;> cases decide ((leftN s.a).length = 0) <;> cases decide (s.wy.length + (leftN s.a).length > 30) <;> cases decide (2 ≤ c.1) && decide (c.1 ≤ 4) <;> cases c.2.1 <;> cases decide (0 ≤ c.2.2) && decide (c.2.2 < (s.bk.length : Int)) <;> cases decide (0 ≤ c.2.2) && decide (c.2.2 < (s.wy.length : Int)) <;> cases c.1 == 4 <;> cases decide (s.bk.length = 30) <;> cases decide (s.wy.length = 30) <;> cases c.1 == 2 <;> first | exact fun _ => rfl | (intro h; cases h)
theorem step_B (c : Int × Bool × Int) (s : Ses) : (stepN c s).2.B = s.B := by
  unfold stepN
  cases c.1 == 1 <;> cases decide ((leftN s.a).length = 0) <;> cases decide (s.wy.length + (leftN s.a).length > 30) <;> cases decide (2 ≤ c.1) && decide (c.1 ≤ 4) <;> cases c.2.1 <;> cases decide (0 ≤ c.2.2) && decide (c.2.2 < (s.bk.length : Int)) <;> cases decide (0 ≤ c.2.2) && decide (c.2.2 < (s.wy.length : Int)) <;> cases c.1 == 4 <;> cases decide (s.bk.length = 30) <;> cases decide (s.wy.length = 30) <;> cases c.1 == 2 <;> first | rfl | exact come_B _ _
theorem spec_Own_eq (s : Ses) (h : Gd s) : spec_l5Own s.B s.a s.g s.y s.dn s.wy s.bk = some s.out := by
  unfold spec_l5Own
  have := h.g5
  have := h.al
  have := h.wl
  have := h.bl
  rw [grd_dec (by omega), grd_dec (by omega), spec_own_eq s.wy (by omega) (fun x hx => way_x4 h hx), Option.bind_some, spec_own_eq s.bk (by omega) (fun x hx => back_x4 h hx), Option.bind_some]
  rfl
theorem impl_Own_eq (s : Ses) (h : Gd s) : impl_Session_copied s.B s.a s.g s.y s.dn s.wy s.bk = some s.out := by
  have := h.g5
  have := h.al
  have := h.wl
  have := h.bl
  exact impl_copied_eq s (by omega) (by omega) (by omega) (by omega) (fun x hx => way_x4 h hx) (fun x hx => back_x4 h hx)
def playGo : List (Int × Bool × Int) → Ses → List Bool → Ses × List Bool
  | [], s, r => (s, r)
  | c :: l, s, r => playGo l (stepN c s).2 (r ++ [(stepN c s).1])
theorem play_gd : ∀ (l : List (Int × Bool × Int)) (s : Ses) (r : List Bool), Gd s → Gd (playGo l s r).1
  | [], _, _, h => h
  | c :: l, _, _, h => play_gd l _ _ (step_gd c h)
theorem play_B : ∀ (l : List (Int × Bool × Int)) (s : Ses) (r : List Bool), (playGo l s r).1.B = s.B
  | [], _, _ => rfl
  | c :: l, s, r => (play_B l _ _).trans (step_B c s)
theorem play_len : ∀ (l : List (Int × Bool × Int)) (s : Ses) (r : List Bool), (playGo l s r).2.length = r.length + l.length
  | [], _, _ => rfl
  | c :: l, s, r => by rw [playGo, play_len l, List.length_append]; simp; omega
def outP (p : Ses × List Bool) : ByteArray × ByteArray × Bool × Bool × List Bool × List Bool × List SEG × List SEG × List Bool := (p.1.B, p.1.y, p.1.dn, true, p.1.a, p.1.g, p.1.wy, p.1.bk, p.2)
def playN (B : ByteArray) (l : List (Int × Bool × Int)) : ByteArray × ByteArray × Bool × Bool × List Bool × List Bool × List SEG × List SEG × List Bool :=
  bif sizeB B then bif decide ((l.length : Int) > 160) then (emp, emp, false, false, [], [], [], [], []) else outP (playGo l (freshS B) []) else (emp, emp, false, false, [], [], [], [], [])
theorem impl_Play_eq (B : ByteArray) (l : List (Int × Bool × Int)) : impl_PlaySession B l = some (playN B l) := by
  refine lim_eq 162 fun k hk => ?_
  unfold impl_PlaySession.g playN
  rw [impl_New_eq, Option.bind_some]
  unfold newN
  cases hs : sizeB B with
  | false => rfl
  | true =>
    show (bif decide ((l.length : Int) > 160) then _ else iter (impl_PlaySession.s0 k) k _) = _
    simp only [cond_true]
    by_cases hl : (l.length : Int) > 160
    · rw [bif_dec_t hl, bif_dec_t hl]
    · rw [bif_dec_f hl, bif_dec_f hl]
      refine (scan_run (step := impl_PlaySession.s0 k) (l.length : Int) (fun i (p : Ses × List Bool) => (l, (l.length : Int), i, emp, emp, false, p.1.B, p.1.y, p.1.dn, p.2, p.1.a, p.1.g, p.1.wy, p.1.bk)) (fun i p => some (outP (playGo (l.drop i.toNat) p.1 p.2))) (fun i p => Gd p.1 ∧ (p.2.length : Int) = i) ?_ k 0 (freshS B, []) (Int.le_refl _) (by omega) ⟨fresh_gd hs, rfl⟩ (by omega)).trans ?_
      · intro rec i p h0 h1 hJ ih
        unfold impl_PlaySession.s0
        simp only []
        by_cases hlt : i < (l.length : Int)
        · rw [bif_dec_t hlt, grd_dec h0, grd_dec hlt, impl_step_eq _ p.1 hJ.1, Option.bind_some]
          show grd _ (rec _) = _
          rw [grd_dec (by have := hJ.2; omega), w64_id (n := i + 1) (by omega) (by omega), dropI (0, false, 0) l i h0 hlt, playGo]
          exact ih hlt ((stepN (rdOf (0, false, 0) l i) p.1).2, p.2 ++ [(stepN (rdOf (0, false, 0) l i) p.1).1]) ⟨step_gd _ hJ.1, by rw [List.length_append]; simp; exact hJ.2⟩
        · rw [bif_dec_f hlt, dropE l i (by omega)]
          rfl
      · rfl
theorem spec_Play_eq (B : ByteArray) (l : List (Int × Bool × Int)) : spec_PlaySession B l = some (playN B l) := by
  refine lim_eq 162 fun k hk => ?_
  unfold spec_PlaySession.g playN
  rw [spec_New_eq, Option.bind_some]
  unfold newN
  cases hs : sizeB B with
  | false => rfl
  | true =>
    show (bif decide ((l.length : Int) > 160) then _ else iter (spec_PlaySession.s0 k) k _) = _
    simp only [cond_true]
    by_cases hl : (l.length : Int) > 160
    · rw [bif_dec_t hl, bif_dec_t hl]
    · rw [bif_dec_f hl, bif_dec_f hl]
      refine (scan_run (step := spec_PlaySession.s0 k) (l.length : Int) (fun i (p : Ses × List Bool) => (l, (l.length : Int), i, emp, emp, false, p.1.B, p.1.y, p.1.dn, p.2, p.1.a, p.1.g, p.1.wy, p.1.bk)) (fun i p => some (outP (playGo (l.drop i.toNat) p.1 p.2))) (fun i p => Gd p.1 ∧ (p.2.length : Int) = i) ?_ k 0 (freshS B, []) (Int.le_refl _) (by omega) ⟨fresh_gd hs, rfl⟩ (by omega)).trans ?_
      · intro rec i p h0 h1 hJ ih
        unfold spec_PlaySession.s0
        simp only [spec_Own_eq p.1 hJ.1, Option.bind_some]
        by_cases hlt : i < (l.length : Int)
        · rw [bif_dec_t hlt, grd_dec h0, grd_dec hlt]
          show (spec_l5Step p.1.B p.1.y p.1.dn _ _ _ p.1.a p.1.g p.1.wy p.1.bk).bind _ = _
          rw [spec_step_eq _ p.1 hJ.1, Option.bind_some, w64_id (n := i + 1) (by omega) (by omega), dropI (0, false, 0) l i h0 hlt, playGo]
          have hi := ih hlt ((stepN (rdOf (0, false, 0) l i) p.1).2, p.2 ++ [(stepN (rdOf (0, false, 0) l i) p.1).1]) ⟨step_gd _ hJ.1, by rw [List.length_append]; simp; exact hJ.2⟩
          have h2 := hJ.2
          unfold outS
          simp only []
          cases ho : (stepN (rdOf (0, false, 0) l i) p.1).1 with
          | true =>
            rw [ho] at hi
            rw [cond_true, grd_dec (by omega)]
            exact hi
          | false =>
            rw [ho] at hi
            rw [step_false ho] at hi ⊢
            rw [cond_false, grd_dec (by omega)]
            exact hi
        · rw [bif_dec_f hlt, dropE l i (by omega)]
          rfl
      · rfl
/-- one step on a session -/
def stepsN (c : Int × Bool × Int) (s : Ses) : ByteArray × ByteArray × Bool × Bool × List Bool × List Bool × List SEG × List SEG :=
  bif s.good && (stepN c s).1 then outS (stepN c s) else (emp, emp, false, false, [], [], [], [])
theorem impl_StepS_eq (c : Int × Bool × Int) (s : Ses) : impl_StepSession s.B s.a s.g s.y s.dn s.wy s.bk c.1 c.2.1 c.2.2 = some (stepsN c s) := by
  unfold impl_StepSession stepsN
  rw [impl_Good_eq, Option.bind_some]
  show (bif !s.good then _ else _) = _
  cases hg : s.good with
  | false => rfl
  | true =>
    have h := (good_iff s).mp hg
    simp only [Bool.not_true, cond_false]
    rw [impl_Own_eq s h, Option.bind_some]
    show (impl_Session_step c.1 c.2.1 c.2.2 s.B s.y s.dn s.a s.g s.wy s.bk).bind _ = _
    rw [impl_step_eq c s h, Option.bind_some]
    unfold outS Ses.out
    simp only []
    cases (stepN c s).1 <;> rfl
theorem spec_StepS_eq (c : Int × Bool × Int) (s : Ses) : spec_StepSession s.B s.a s.g s.y s.dn s.wy s.bk c.1 c.2.1 c.2.2 = some (stepsN c s) := by
  unfold spec_StepSession stepsN
  rw [spec_Good_eq, Option.bind_some]
  show (bif !s.good then _ else _) = _
  cases hg : s.good with
  | false => rfl
  | true =>
    have h := (good_iff s).mp hg
    simp only [Bool.not_true, cond_false]
    rw [spec_Own_eq s h, Option.bind_some]
    show (spec_l5Step s.B s.y s.dn c.1 c.2.1 c.2.2 s.a s.g s.wy s.bk).bind _ = _
    rw [spec_step_eq c s h, Option.bind_some]
    unfold outS
    simp only []
    cases (stepN c s).1 <;> rfl
/-! ### sessions: marks -/
def fB (k : Int) (_ : Bool) : Bool := Int.tmod k 3 == 0
def w1 {α : Type} (_ : α) : Nat := 1
theorem sumW_one {α : Type} : ∀ (l : List α), sumW w1 l = l.length
  | [] => rfl
  | x :: r => by rw [sumW, sumW_one r, List.length_cons]; unfold w1; omega
theorem markBoolS_eq (k : Int) (l : List Bool) (h0 : 0 < k) (h1 : k + l.length ≤ 1000000000000000) (hl : l.length ≤ 10000000) : laws_markBoolS k l = some (k + l.length, marksL fB w1 k l) := by
  refine lim_eq (l.length + 1) fun n hn => ?_
  unfold laws_markBoolS.g
  have := mark_run (step := laws_markBoolS.s0 n) false fB w1 (fun _ => True) (fun rec k i r h0 hb hi0 hi1 hr _ => ?_) (fun rec k i r hi => ?_) l [] k n h0 (by rw [sumW_one]; exact h1) (by simpa using hl) (fun _ _ => trivial) (by omega)
  · rw [sumW_one] at this
    exact this
  · unfold laws_markBoolS.s0
    simp only []
    have hb : k + (1 : Int) ≤ 1000000000000000 := hb
    rw [bif_dec_t hi1, grd_dec hi0, grd_dec hi1, w64_id (by omega) (by omega), w64_id (by omega) (by omega)]
    rfl
  · unfold laws_markBoolS.s0
    simp only []
    rw [bif_dec_f (by omega)]
theorem heldBoolS_eq (k : Int) (l : List Bool) (h0 : 0 < k) (h1 : k + l.length ≤ 1000000000000000) (hl : l.length ≤ 10000000) : laws_heldBoolS (marksL fB w1 k l) k = some (k + l.length) := by
  refine lim_eq (l.length + 1) fun n hn => ?_
  unfold laws_heldBoolS.g
  have := held_run (step := laws_heldBoolS.s0 n) false fB w1 (fun _ => True) (fun rec a k i x h0 hb hi0 hi1 hr _ hx => ?_) (fun rec a k i hi => ?_) l [] k n h0 (by rw [sumW_one]; exact h1) (by simpa using hl) (fun _ _ => trivial) (by omega)
  · rw [sumW_one] at this
    exact this
  · unfold laws_heldBoolS.s0
    simp only []
    have hb : k + (1 : Int) ≤ 1000000000000000 := hb
    rw [bif_dec_t hi1, grd_dec hi0, grd_dec hi1, hx, w64_id (by omega) (by omega), w64_id (by omega) (by omega)]
    unfold fB
    rw [beq_self_eq_true]
    rfl
  · unfold laws_heldBoolS.s0
    simp only []
    rw [bif_dec_f (by omega)]
/-! the text of a mark -/
theorem markText_run : ∀ (n : Nat) (k : Int) (o : ByteArray), 0 ≤ k → k ≤ 1000000000000000 → k < 10 ^ n → o.size + n ≤ 1000 → ∃ t, ∀ K m, n < m → iter (laws_markText.s0 K) m (k, o) = some t
  | 0, k, o, h0, hb, h1, ho => by
    refine ⟨(bs [109]) ++ o, fun K m hm => ?_⟩
    obtain ⟨j, rfl⟩ : ∃ j, m = j + 1 := ⟨m - 1, by omega⟩
    rw [iter]
    unfold laws_markText.s0
    simp only []
    have hs : (bs [109]).size = 1 := by rfl
    rw [bif_dec_f (by omega), grd_dec (by rw [hs]; omega)]
  | n + 1, k, o, h0, hb, h1, ho => by
    by_cases hk : k > 0
    · have hq : Int.tdiv k 10 < 10 ^ n := by
        rw [Int.tdiv_eq_ediv_of_nonneg h0]
        rw [Int.pow_succ] at h1
        omega
      have hq0 : 0 ≤ Int.tdiv k 10 := by rw [Int.tdiv_eq_ediv_of_nonneg h0]; omega
      obtain ⟨t, ht⟩ := markText_run n (Int.tdiv k 10) ((strOfNums [IntKind.u8.wrap (w64 (48 + (Int.tmod k 10)))]) ++ o) hq0 (by rw [Int.tdiv_eq_ediv_of_nonneg h0]; omega) hq (by rw [ByteArray.size_append, strOfNums_size, List.length_singleton]; omega)
      refine ⟨t, fun K m hm => ?_⟩
      obtain ⟨j, rfl⟩ : ∃ j, m = j + 1 := ⟨m - 1, by omega⟩
      rw [iter]
      unfold laws_markText.s0
      simp only []
      rw [bif_dec_t hk, grd_dec (by rw [strOfNums_size, List.length_singleton]; omega)]
      have hw : w64 (Int.tdiv k 10) = Int.tdiv k 10 := by
        rw [Int.tdiv_eq_ediv_of_nonneg h0]
        exact w64_id (by omega) (by omega)
      rw [hw]
      exact ht K j (by omega)
    · refine ⟨(bs [109]) ++ o, fun K m hm => ?_⟩
      obtain ⟨j, rfl⟩ : ∃ j, m = j + 1 := ⟨m - 1, by omega⟩
      rw [iter]
      unfold laws_markText.s0
      simp only []
      have hs : (bs [109]).size = 1 := by rfl
      rw [bif_dec_f hk, grd_dec (by rw [hs]; omega)]
theorem markText_ex (k : Int) : ∃ t, 0 < k → k ≤ 1000000000000000 → laws_markText k = some t := by
  by_cases h : 0 < k ∧ k ≤ 1000000000000000
  · obtain ⟨t, ht⟩ := markText_run 17 k emp (by omega) h.2 (by have := h.2; omega) (by decide)
    refine ⟨t, fun _ _ => lim_eq 20 fun n hn => ?_⟩
    unfold laws_markText.g
    rw [bif_dec_f (by omega)]
    exact ht n n (by omega)
  · exact ⟨emp, fun h1 h2 => absurd ⟨h1, h2⟩ h⟩
noncomputable def mt (k : Int) : ByteArray := (markText_ex k).choose
theorem markText_eq {k : Int} (h0 : 0 < k) (h1 : k ≤ 1000000000000000) : laws_markText k = some (mt k) := (markText_ex k).choose_spec h0 h1
noncomputable def fS (k : Int) (x : SEG) : SEG := (k, k + 1, mt (k + 2), Int.tmod (k + 3) 3 == 0, marksL fB w1 (k + 4) x.2.2.2.2)
def wS (x : SEG) : Nat := 4 + x.2.2.2.2.length
theorem markSegmentS_eq (k : Int) (l : List SEG) (h0 : 0 < k) (h1 : k + sumW wS l ≤ 1000000000000000) (hl : l.length ≤ 10000000) (hx : ∀ x ∈ l, x.2.2.2.2.length ≤ 10000000) : laws_markSegmentS k l = some (k + sumW wS l, marksL fS wS k l) := by
  refine lim_eq (l.length + 1) fun n hn => ?_
  unfold laws_markSegmentS.g
  refine mark_run (step := laws_markSegmentS.s0 n) seg0 fS wS (fun x => x.2.2.2.2.length ≤ 10000000) (fun rec k i r h0 hb hi0 hi1 hr hx => ?_) (fun rec k i r hi => ?_) l [] k n h0 h1 (by simpa using hl) hx (by omega)
  · have hb2 : k + 4 + ((rdOf seg0 r i).2.2.2.2.length : Int) ≤ 1000000000000000 := by
      have : ((wS (rdOf seg0 r i) : Nat) : Int) = 4 + ((rdOf seg0 r i).2.2.2.2.length : Int) := by unfold wS; omega
      omega
    unfold laws_markSegmentS.s0
    have e1 : w64 (k + 1) = k + 1 := w64_id (by omega) (by omega)
    have e2 : w64 (k + 1 + 1) = k + 2 := (w64_id (by omega) (by omega)).trans (by omega)
    have e3 : w64 (k + 2 + 1) = k + 3 := (w64_id (by omega) (by omega)).trans (by omega)
    have e4 : w64 (k + 3 + 1) = k + 4 := (w64_id (by omega) (by omega)).trans (by omega)
    have e5 : w64 (i + 1) = i + 1 := w64_id (by omega) (by omega)
    have hlen : ∀ y, i < ((setI r i y).length : Int) := fun y => by rw [setI_length]; exact hi1
    simp only [setI_setI, rd_setI seg0 r i _ hi0 hi1, bif_dec_t hi1, grd_dec hi0, grd_dec hi1, e1, e2, e3, e4, e5, markText_eq (show 0 < k + 2 by omega) (show k + 2 ≤ 1000000000000000 by omega), Option.bind_some, markBoolS_eq (k + 4) _ (by omega) hb2 hx, grd_dec (hlen _)]
    rw [show k + ((wS (rdOf seg0 r i) : Nat) : Int) = k + 4 + ((rdOf seg0 r i).2.2.2.2.length : Int) by unfold wS; omega]
    rfl
  · unfold laws_markSegmentS.s0
    simp only []
    rw [bif_dec_f (by omega)]
theorem heldSegmentS_eq (k : Int) (l : List SEG) (h0 : 0 < k) (h1 : k + sumW wS l ≤ 1000000000000000) (hl : l.length ≤ 10000000) (hx : ∀ x ∈ l, x.2.2.2.2.length ≤ 10000000) : laws_heldSegmentS (marksL fS wS k l) k = some (k + sumW wS l) := by
  refine lim_eq (l.length + 1) fun n hn => ?_
  unfold laws_heldSegmentS.g
  refine held_run (step := laws_heldSegmentS.s0 n) seg0 fS wS (fun x => x.2.2.2.2.length ≤ 10000000) (fun rec a k i x h0 hb hi0 hi1 hr hx hrd => ?_) (fun rec a k i hi => ?_) l [] k n h0 h1 (by simpa using hl) hx (by omega)
  · have hb2 : k + 4 + (x.2.2.2.2.length : Int) ≤ 1000000000000000 := by
      have : ((wS x : Nat) : Int) = 4 + (x.2.2.2.2.length : Int) := by unfold wS; omega
      omega
    unfold laws_heldSegmentS.s0
    have e1 : w64 (k + 1) = k + 1 := w64_id (by omega) (by omega)
    have e2 : w64 (k + 1 + 1) = k + 2 := (w64_id (by omega) (by omega)).trans (by omega)
    have e3 : w64 (k + 2 + 1) = k + 3 := (w64_id (by omega) (by omega)).trans (by omega)
    have e4 : w64 (k + 3 + 1) = k + 4 := (w64_id (by omega) (by omega)).trans (by omega)
    have e5 : w64 (i + 1) = i + 1 := w64_id (by omega) (by omega)
    have hrd : rdOf (0, 0, emp, false, []) a i = fS k x := hrd
    simp only [hrd]
    unfold fS
    simp only [bif_dec_t hi1, grd_dec hi0, grd_dec hi1, e1, e2, e3, e4, e5, markText_eq (show 0 < k + 2 by omega) (show k + 2 ≤ 1000000000000000 by omega), Option.bind_some, heldBoolS_eq (k + 4) _ (by omega) hb2 hx, bne_self_eq_false, beq_self_eq_true, Bool.not_true, cond_false]
    rw [bif_dec_f (by omega)]
    rw [show k + ((wS x : Nat) : Int) = k + 4 + (x.2.2.2.2.length : Int) by unfold wS; omega]
  · unfold laws_heldSegmentS.s0
    simp only []
    rw [bif_dec_f (by omega)]
/-! ### sessions: made over, held against themselves, marked -/
theorem allT {α : Type} (l : List α) : l.all (fun _ => true) = true := List.all_eq_true.mpr (fun _ _ => rfl)
theorem toBoolS_eq (l : List Bool) (h : l.length ≤ 10000000) : laws_toBoolS l = some l := by
  refine lim_eq (l.length + 1) fun k hk => ?_
  unfold laws_toBoolS.g
  rw [grd_self, grd_dec (by omega), grd_dec (by omega)]
  refine to_loop (step := laws_toBoolS.s0 k) false false l (fun i r => (l, i, r)) ?_ ?_ k (by omega)
  · intro rec i r h0 h1 hr _
    unfold laws_toBoolS.s0
    simp only []
    rw [bif_dec_t h1, grd_dec h0, grd_dec h1, grd_dec h0, grd_dec (by omega), w64_id (by omega) (by omega)]
  · intro rec r
    unfold laws_toBoolS.s0
    simp only []
    rw [bif_dec_f (Int.lt_irrefl _)]
theorem toSegmentS_eq (l : List SEG) (h : l.length ≤ 10000000) (hx : ∀ x ∈ l, x.2.2.2.2.length ≤ 10000000) : laws_toSegmentS l = some l := by
  refine lim_eq (l.length + 1) fun k hk => ?_
  unfold laws_toSegmentS.g
  rw [grd_self, grd_dec (by omega), grd_dec (by omega)]
  refine to_loop (step := laws_toSegmentS.s0 k) seg0 seg0 l (fun i r => (l, i, r)) ?_ ?_ k (by omega)
  · intro rec i r h0 h1 hr hm
    have := hx _ hm
    unfold laws_toSegmentS.s0
    simp only []
    rw [bif_dec_t h1, grd_dec h0, grd_dec h1]
    have e : laws_toSegment (rdOf seg0 l i).1 (rdOf seg0 l i).2.1 (rdOf seg0 l i).2.2.1 (rdOf seg0 l i).2.2.2.1 (rdOf seg0 l i).2.2.2.2 = some (rdOf seg0 l i) := by
      unfold laws_toSegment
      rw [toBoolS_eq _ this, Option.bind_some]
    change (laws_toSegment (rdOf seg0 l i).1 (rdOf seg0 l i).2.1 (rdOf seg0 l i).2.2.1 (rdOf seg0 l i).2.2.2.1 (rdOf seg0 l i).2.2.2.2).bind _ = _
    rw [e, Option.bind_some]
    change grd _ (grd _ _) = _
    rw [grd_dec h0, grd_dec (by omega), w64_id (by omega) (by omega)]
  · intro rec r
    unfold laws_toSegmentS.s0
    simp only []
    rw [bif_dec_f (Int.lt_irrefl _)]
theorem eqBoolS_self (l : List Bool) (h : l.length ≤ 10000000) : laws_eqBoolS l l = some true := by
  refine lim_eq (l.length + 1) fun k hk => ?_
  unfold laws_eqBoolS.g
  rw [bne_int, decide_eq_true rfl]
  refine (all_loop (step := laws_eqBoolS.s0 k) false l (fun _ => true) (some true) (some false) (fun i => (l, l, i)) ?_ ?_ k (by omega)).trans (by rw [allT]; rfl)
  · intro rec i h0 h1 _
    unfold laws_eqBoolS.s0
    simp only [bif_dec_t h1, grd_dec h0, grd_dec h1, beq_self_eq_true, Bool.not_true, cond_false, cond_true]
    rw [w64_id (by omega) (by omega)]
  · intro rec
    unfold laws_eqBoolS.s0
    simp only []
    rw [bif_dec_f (Int.lt_irrefl _)]
theorem eqSegmentS_self (l : List SEG) (h : l.length ≤ 10000000) (hx : ∀ x ∈ l, x.2.2.2.2.length ≤ 10000000) : laws_eqSegmentS l l = some true := by
  refine lim_eq (l.length + 1) fun k hk => ?_
  unfold laws_eqSegmentS.g
  rw [bne_int, decide_eq_true rfl]
  refine (all_loop (step := laws_eqSegmentS.s0 k) seg0 l (fun _ => true) (some true) (some false) (fun i => (l, l, i)) ?_ ?_ k (by omega)).trans (by rw [allT]; rfl)
  · intro rec i h0 h1 hm
    have := hx _ hm
    unfold laws_eqSegmentS.s0
    have e : laws_eqSegment (rdOf seg0 l i).1 (rdOf seg0 l i).2.1 (rdOf seg0 l i).2.2.1 (rdOf seg0 l i).2.2.2.1 (rdOf seg0 l i).2.2.2.2 (rdOf seg0 l i).1 (rdOf seg0 l i).2.1 (rdOf seg0 l i).2.2.1 (rdOf seg0 l i).2.2.2.1 (rdOf seg0 l i).2.2.2.2 = some true := by
      unfold laws_eqSegment
      rw [eqBoolS_self _ this]
      simp
    simp only []
    rw [bif_dec_t h1, grd_dec h0, grd_dec h1, grd_dec h0, grd_dec h1]
    change (laws_eqSegment (rdOf seg0 l i).1 (rdOf seg0 l i).2.1 (rdOf seg0 l i).2.2.1 (rdOf seg0 l i).2.2.2.1 (rdOf seg0 l i).2.2.2.2 (rdOf seg0 l i).1 (rdOf seg0 l i).2.1 (rdOf seg0 l i).2.2.1 (rdOf seg0 l i).2.2.2.1 (rdOf seg0 l i).2.2.2.2).bind _ = _
    rw [e, w64_id (by omega) (by omega)]
    rfl
  · intro rec
    unfold laws_eqSegmentS.s0
    simp only []
    rw [bif_dec_f (Int.lt_irrefl _)]
structure Sm (a g : List Bool) (wy bk : List SEG) : Prop where
  a : a.length ≤ 10000000
  g : g.length ≤ 10000000
  w : wy.length ≤ 10000000
  b : bk.length ≤ 10000000
  ww : ∀ x ∈ wy, x.2.2.2.2.length ≤ 10000000
  bb : ∀ x ∈ bk, x.2.2.2.2.length ≤ 10000000
theorem sm_nil : Sm [] [] [] [] := ⟨by simp, by simp, by simp, by simp, fun x h => absurd h (List.not_mem_nil), fun x h => absurd h (List.not_mem_nil)⟩
theorem sm_gd {s : Ses} (h : Gd s) : Sm s.a s.g s.wy s.bk := by
  have h1 := h.al
  have h2 := h.g5
  have h3 := h.wl
  have h4 := h.bl
  refine ⟨by omega, by omega, by omega, by omega, fun x hx => ?_, fun x hx => ?_⟩
  · have := (way_parts (h.ww x hx)).2.2.2.2; omega
  · have := below_len (back_parts (h.bb x hx)).2; omega
theorem toSession_eq {B y : ByteArray} {dn : Bool} {a g : List Bool} {wy bk : List SEG} (h : Sm a g wy bk) : laws_toSession B a g y dn wy bk = some (B, y, dn, a, g, wy, bk) := by
  unfold laws_toSession
  rw [toBoolS_eq _ h.a, Option.bind_some, toBoolS_eq _ h.g, Option.bind_some, toSegmentS_eq _ h.w h.ww, Option.bind_some, toSegmentS_eq _ h.b h.bb, Option.bind_some]
theorem eqSession_self {B y : ByteArray} {dn : Bool} {a g : List Bool} {wy bk : List SEG} (h : Sm a g wy bk) : laws_eqSession B a g y dn wy bk B a g y dn wy bk = some true := by
  unfold laws_eqSession
  rw [eqBoolS_self _ h.a, eqBoolS_self _ h.g, eqSegmentS_self _ h.w h.ww, eqSegmentS_self _ h.b h.bb]
  simp
theorem wS_sum (l : List SEG) (h : l.length ≤ 10000000) (hx : ∀ x ∈ l, x.2.2.2.2.length ≤ 10000000) : sumW wS l ≤ 100000040000000 := by
  have h1 := sumW_le wS 10000004 l (fun x hm => by have := hx x hm; unfold wS; omega)
  have h2 : l.length * 10000004 ≤ 10000000 * 10000004 := Nat.mul_le_mul_right _ h
  omega
/-- A session is marked, and held so. -/
theorem mark_ses {B y : ByteArray} {dn : Bool} {a g : List Bool} {wy bk : List SEG} (h : Sm a g wy bk) : ∃ (K : Int) (a' g' : List Bool) (wy' bk' : List SEG), 0 < K ∧ K ≤ 300000000000000 ∧ laws_markSession B y dn 1 a g wy bk = some (K, a', g', wy', bk') ∧ laws_heldSession B a' g' y dn wy' bk' 1 = some K := by
  have h1 := wS_sum wy h.w h.ww
  have h2 := wS_sum bk h.b h.bb
  have ha := h.a
  have hg := h.g
  have e1 : (0 : Int) < 1 := by decide
  have m1 := markBoolS_eq 1 a e1 (by omega) ha
  have m2 := markBoolS_eq (1 + a.length) g (by omega) (by omega) hg
  have m3 := markSegmentS_eq (1 + a.length + g.length) wy (by omega) (by omega) h.w h.ww
  have m4 := markSegmentS_eq (1 + a.length + g.length + sumW wS wy) bk (by omega) (by omega) h.b h.bb
  have n1 := heldBoolS_eq 1 a e1 (by omega) ha
  have n2 := heldBoolS_eq (1 + a.length) g (by omega) (by omega) hg
  have n3 := heldSegmentS_eq (1 + a.length + g.length) wy (by omega) (by omega) h.w h.ww
  have n4 := heldSegmentS_eq (1 + a.length + g.length + sumW wS wy) bk (by omega) (by omega) h.b h.bb
  refine ⟨1 + a.length + g.length + sumW wS wy + sumW wS bk, marksL fB w1 1 a, marksL fB w1 (1 + a.length) g, marksL fS wS (1 + a.length + g.length) wy, marksL fS wS (1 + a.length + g.length + sumW wS wy) bk, by omega, by omega, ?_, ?_⟩
  · unfold laws_markSession
    rw [m1, Option.bind_some]
    simp only []
    rw [m2, Option.bind_some]
    simp only []
    rw [m3, Option.bind_some]
    simp only []
    rw [m4, Option.bind_some]
  · unfold laws_heldSession
    rw [n1, Option.bind_some, bif_dec_f (by omega), n2, Option.bind_some, bif_dec_f (by omega), n3, Option.bind_some, bif_dec_f (by omega), n4, Option.bind_some, bif_dec_f (by omega)]
/-! sizes -/
theorem szBool_ok (l : List Bool) (left : Int) (h0 : 0 ≤ left) (h1 : left ≤ 2000000) (hl : l.length ≤ 9223372036854775807) : ∃ c, laws_szBoolS l left = some c ∧ (¬ c < 0 → 0 ≤ c ∧ c ≤ left ∧ (l.length : Int) ≤ left) := by
  unfold laws_szBoolS
  rw [w64_id (by omega) (by omega)]
  by_cases c : left - (l.length : Int) < 0
  · rw [bif_dec_t c]; exact ⟨-1, rfl, fun h => absurd (by decide) h⟩
  · rw [bif_dec_f c]; exact ⟨_, rfl, fun _ => by omega⟩
def bigS (x : SEG) : Prop := x.2.2.1.size ≤ 9223372036854775807 ∧ x.2.2.2.2.length ≤ 9223372036854775807
theorem szSeg_ok (x : SEG) (left : Int) (h0 : 0 ≤ left) (h1 : left ≤ 2000000) (hx : bigS x) : ∃ c, laws_szSegment x.1 x.2.1 x.2.2.1 x.2.2.2.1 x.2.2.2.2 left = some c ∧ (¬ c < 0 → 0 ≤ c ∧ c ≤ left ∧ (x.2.2.2.2.length : Int) ≤ left) := by
  have hz := hx.1
  unfold laws_szSegment
  rw [w64_id (by omega) (by omega)]
  by_cases c : left - (x.2.2.1.size : Int) < 0
  · rw [bif_dec_t c]; exact ⟨-1, rfl, fun h => absurd (by decide) h⟩
  · obtain ⟨d, e, hd⟩ := szBool_ok x.2.2.2.2 (left - x.2.2.1.size) (by omega) (by omega) hx.2
    rw [bif_dec_f c, e, Option.bind_some]
    by_cases c2 : d < 0
    · rw [bif_dec_t c2]; exact ⟨-1, rfl, fun h => absurd (by decide) h⟩
    · rw [bif_dec_f c2]
      have := hd c2
      exact ⟨d, rfl, fun _ => by omega⟩
theorem szSegs_run : ∀ (r pre : List SEG) (left : Int), pre.length + r.length ≤ 9223372036854775807 → 0 ≤ left → left ≤ 2000000 → (∀ x ∈ r, bigS x) →
    ∃ c, (∀ K k, r.length < k → iter (laws_szSegmentS.s0 K) k (pre ++ r, left, (pre.length : Int)) = some c) ∧ (¬ c < 0 → 0 ≤ c ∧ c ≤ left ∧ ∀ x ∈ r, (x.2.2.2.2.length : Int) ≤ left)
  | [], pre, left, hl, h0, h1, hx => by
    refine ⟨left, fun K k hk => ?_, fun _ => ⟨h0, Int.le_refl _, fun x h => absurd h (List.not_mem_nil)⟩⟩
    obtain ⟨j, rfl⟩ : ∃ j, k = j + 1 := ⟨k - 1, by simp at hk; omega⟩
    rw [iter]
    unfold laws_szSegmentS.s0
    simp only []
    rw [bif_dec_f (by simp)]
  | x :: r, pre, left, hl, h0, h1, hx => by
    rw [List.length_cons] at hl
    obtain ⟨c, e, hc⟩ := szSeg_ok x left h0 h1 (hx x (List.mem_cons_self ..))
    have step : ∀ K rec, laws_szSegmentS.s0 K rec (pre ++ x :: r, left, (pre.length : Int)) = bif decide (c < 0) then some (-1) else rec ((pre ++ [x]) ++ r, c, (((pre ++ [x]).length : Nat) : Int)) := by
      intro K rec
      have hr : rdOf (0, 0, emp, false, []) (pre ++ x :: r) (pre.length : Int) = x := rd_pre ..
      unfold laws_szSegmentS.s0
      simp only [hr]
      rw [bif_dec_t (by simp; omega), grd_dec (by omega), grd_dec (by simp; omega), w64_id (by omega) (by omega), e, Option.bind_some, List.append_assoc, List.length_append, List.length_singleton]
      rfl
    by_cases cc : c < 0
    · refine ⟨-1, fun K k hk => ?_, fun h => absurd (by decide) h⟩
      obtain ⟨j, rfl⟩ : ∃ j, k = j + 1 := ⟨k - 1, by simp at hk; omega⟩
      rw [iter, step, bif_dec_t cc]
    · have hc := hc cc
      obtain ⟨c', e', hc'⟩ := szSegs_run r (pre ++ [x]) c (by simp; omega) hc.1 (by omega) (fun y hy => hx y (List.mem_cons_of_mem _ hy))
      refine ⟨c', fun K k hk => ?_, fun h => ?_⟩
      · obtain ⟨j, rfl⟩ : ∃ j, k = j + 1 := ⟨k - 1, by simp at hk; omega⟩
        rw [iter, step, bif_dec_f cc]
        exact e' K j (by simp at hk; omega)
      · have := hc' h
        refine ⟨by omega, by omega, fun y hy => ?_⟩
        rcases List.mem_cons.mp hy with hy | hy
        · subst hy; omega
        · have := this.2.2 y hy; omega
theorem szSegS_ok (l : List SEG) (left : Int) (h0 : 0 ≤ left) (h1 : left ≤ 2000000) (hl : l.length ≤ 9223372036854775807) (hx : ∀ x ∈ l, bigS x) : ∃ c, laws_szSegmentS l left = some c ∧ (¬ c < 0 → 0 ≤ c ∧ c ≤ left ∧ (l.length : Int) ≤ left ∧ ∀ x ∈ l, (x.2.2.2.2.length : Int) ≤ left) := by
  by_cases c1 : left - (l.length : Int) < 0
  · refine ⟨-1, lim_eq 0 fun k _ => ?_, fun h => absurd (by decide) h⟩
    unfold laws_szSegmentS.g
    rw [w64_id (by omega) (by omega), bif_dec_t c1]
  · obtain ⟨c, e, hc⟩ := szSegs_run l [] (left - l.length) (by simpa using hl) (by omega) (by omega) hx
    refine ⟨c, lim_eq (l.length + 1) fun k hk => ?_, fun h => ?_⟩
    · unfold laws_szSegmentS.g
      rw [w64_id (by omega) (by omega), bif_dec_f c1]
      exact e k k (by omega)
    · have := hc h
      exact ⟨by omega, by omega, by omega, fun x hx' => by have := this.2.2 x hx'; omega⟩
structure BigA (B y : ByteArray) (a g : List Bool) (wy bk : List SEG) : Prop where
  B : B.size ≤ 9223372036854775807
  y : y.size ≤ 9223372036854775807
  a : a.length ≤ 9223372036854775807
  g : g.length ≤ 9223372036854775807
  w : wy.length ≤ 9223372036854775807
  b : bk.length ≤ 9223372036854775807
  ww : ∀ x ∈ wy, bigS x
  bb : ∀ x ∈ bk, bigS x
theorem szSession_ok {B y : ByteArray} {dn : Bool} {a g : List Bool} {wy bk : List SEG} (h : BigA B y a g wy bk) : ∃ c, laws_szSession B a g y dn wy bk 1048576 = some c ∧ (¬ c < 0 → Sm a g wy bk) := by
  have hB := h.B
  have hy := h.y
  have no : ∀ {p : Prop}, ¬ ((-1 : Int) < 0) → p := fun h => absurd (by decide) h
  unfold laws_szSession
  rw [w64_id (by omega) (by omega)]
  by_cases c0 : (1048576 : Int) - (B.size : Int) < 0
  · rw [bif_dec_t c0]; exact ⟨-1, rfl, no⟩
  · rw [bif_dec_f c0]
    obtain ⟨c1, e1, h1⟩ := szBool_ok a (1048576 - B.size) (by omega) (by omega) h.a
    rw [e1, Option.bind_some]
    by_cases d1 : c1 < 0
    · rw [bif_dec_t d1]; exact ⟨-1, rfl, no⟩
    · have h1 := h1 d1
      obtain ⟨c2, e2, h2⟩ := szBool_ok g c1 (by omega) (by omega) h.g
      rw [bif_dec_f d1, e2, Option.bind_some]
      by_cases d2 : c2 < 0
      · rw [bif_dec_t d2]; exact ⟨-1, rfl, no⟩
      · have h2 := h2 d2
        rw [bif_dec_f d2, w64_id (by omega) (by omega)]
        by_cases d3 : c2 - (y.size : Int) < 0
        · rw [bif_dec_t d3]; exact ⟨-1, rfl, no⟩
        · obtain ⟨c4, e4, h4⟩ := szSegS_ok wy (c2 - y.size) (by omega) (by omega) h.w h.ww
          rw [bif_dec_f d3, e4, Option.bind_some]
          by_cases d4 : c4 < 0
          · rw [bif_dec_t d4]; exact ⟨-1, rfl, no⟩
          · have h4 := h4 d4
            obtain ⟨c5, e5, h5⟩ := szSegS_ok bk c4 (by omega) (by omega) h.b h.bb
            rw [bif_dec_f d4, e5, Option.bind_some]
            by_cases d5 : c5 < 0
            · rw [bif_dec_t d5]; exact ⟨-1, rfl, no⟩
            · have h5 := h5 d5
              rw [bif_dec_f d5]
              exact ⟨c5, rfl, fun _ => ⟨by omega, by omega, by omega, by omega, fun x hx => by have := h4.2.2.2 x hx; omega, fun x hx => by have := h5.2.2.2 x hx; omega⟩⟩
theorem steps_sm (c : Int × Bool × Int) (s : Ses) : Sm (stepsN c s).2.2.2.2.1 (stepsN c s).2.2.2.2.2.1 (stepsN c s).2.2.2.2.2.2.1 (stepsN c s).2.2.2.2.2.2.2 := by
  unfold stepsN
  cases hg : s.good && (stepN c s).1 with
  | false => exact sm_nil
  | true => exact sm_gd (step_gd c ((good_iff s).mp (Bool.and_eq_true_iff.mp hg).1))
theorem pure_FnExactStepSession (s : Ses) (c : Int × Bool × Int) (hb : BigA s.B s.y s.a s.g s.wy s.bk) : laws_FnExactStepSession s.B s.a s.g s.y s.dn s.wy s.bk c.1 c.2.1 c.2.2 = some true := by
  unfold laws_FnExactStepSession
  obtain ⟨d, e, hd⟩ := szSession_ok (dn := s.dn) hb
  rw [e, Option.bind_some]
  by_cases c0 : d < 0
  · rw [bif_dec_t c0]
  · rw [bif_dec_f c0]
    have hsm := hd c0
    have hR := steps_sm c s
    obtain ⟨K0, a0, g0, w0, b0, k0, k1, m0, _⟩ := mark_ses (B := s.B) (y := s.y) (dn := s.dn) hsm
    simp only [toSession_eq hsm, Option.bind_some, laws_toSesStep, spec_StepS_eq, impl_StepS_eq, eqSession_self hsm, m0, bif_dec_f (show ¬ K0 < 0 by omega)]
    generalize stepsN c s = R at hR ⊢
    obtain ⟨B, y, dn, ok, a, g, wy, bk⟩ := R
    have hR : Sm a g wy bk := hR
    obtain ⟨K, a1, g1, w1', b1, k2, k3, m1, m2⟩ := mark_ses (B := B) (y := y) (dn := dn) hR
    simp only [eqSession_self hR, Option.bind_some, Bool.not_true, cond_false, beq_self_eq_true, m1, m2, bne_self_eq_false, bif_dec_f (show ¬ K < 0 by omega)]
theorem seg_arg {l : List SEG} (h : okTy (.slice 117 (.pair (.int .i64) (.pair (.int .i64) (.pair .str (.pair .bool (.slice 4 .bool)))))) l) : l.length ≤ 9223372036854775807 ∧ ∀ x ∈ l, bigS x := by
  have h1 : l.length ≤ maxLen := h.1
  refine ⟨by unfold maxLen at h1; omega, fun x hx => ?_⟩
  have h2 := h.2 x hx
  have h3 : ByteArray.size x.2.2.1 ≤ maxLen := h2.2.2.1
  have h4 : x.2.2.2.2.length ≤ maxLen := h2.2.2.2.2.1
  unfold maxLen at h3 h4
  exact ⟨by omega, by omega⟩
theorem ses_arg {B y : ByteArray} {dn : Bool} {a g : List Bool} {wy bk : List SEG} (h : okTy (.pair .str (.pair (.slice 4 .bool) (.pair (.slice 4 .bool) (.pair .str (.pair .bool (.pair (.slice 117 (.pair (.int .i64) (.pair (.int .i64) (.pair .str (.pair .bool (.slice 4 .bool)))))) (.slice 117 (.pair (.int .i64) (.pair (.int .i64) (.pair .str (.pair .bool (.slice 4 .bool)))))))))))) (B, a, g, y, dn, wy, bk)) : BigA B y a g wy bk := by
  have h1 : ByteArray.size B ≤ maxLen := h.1
  have h2 : a.length ≤ maxLen := h.2.1.1
  have h3 : g.length ≤ maxLen := h.2.2.1.1
  have h4 : ByteArray.size y ≤ maxLen := h.2.2.2.1
  have h5 := seg_arg h.2.2.2.2.2.1
  have h6 := seg_arg h.2.2.2.2.2.2
  unfold maxLen at h1 h2 h3 h4
  exact ⟨by omega, by omega, by omega, by omega, h5.1, h6.1, h5.2, h6.2⟩
theorem Pure.FnExactStepSession (a0_0 : ByteArray) (a0_1 : List Bool) (a0_2 : List Bool) (a0_3 : ByteArray) (a0_4 : Bool) (a0_5 : List (Int × Int × ByteArray × Bool × List Bool)) (a0_6 : List (Int × Int × ByteArray × Bool × List Bool)) (a1_0 : Int) (a1_1 : Bool) (a1_2 : Int) (ok0 : okTy (.pair .str (.pair (.slice 4 .bool) (.pair (.slice 4 .bool) (.pair .str (.pair .bool (.pair (.slice 117 (.pair (.int .i64) (.pair (.int .i64) (.pair .str (.pair .bool (.slice 4 .bool)))))) (.slice 117 (.pair (.int .i64) (.pair (.int .i64) (.pair .str (.pair .bool (.slice 4 .bool)))))))))))) (a0_0, a0_1, a0_2, a0_3, a0_4, a0_5, a0_6)) (ok1 : okTy (.pair (.int .i64) (.pair .bool (.int .i64))) (a1_0, a1_1, a1_2)) : laws_FnExactStepSession a0_0 a0_1 a0_2 a0_3 a0_4 a0_5 a0_6 a1_0 a1_1 a1_2 = some true :=
  pure_FnExactStepSession ⟨a0_0, a0_3, a0_4, a0_1, a0_2, a0_5, a0_6⟩ (a1_0, a1_1, a1_2) (ses_arg ok0)
end Go.Eng
