/- FnExactSafeFor: the law's pure statement: what the program's functions compute, in lists and numbers alone. -/
import Derived.Test.YtoancfhhlmkcbaaKD
import Derived.Test.YtoancfhhlmkcbaaKT
set_option linter.unusedVariables false
set_option linter.unusedSimpArgs false
namespace Go.Eng
open Go Go.RowKit Go.Proofs.YtoancfhhlmkcbaaW.PrintWords
/-! ### words for the pure laws -/
theorem w64_id {n : Int} (h0 : -9223372036854775808 ≤ n) (h1 : n ≤ 9223372036854775807) : w64 n = n := by
  show IntKind.i64.wrap n = n
  rw [IntKind.wrap_i64]
  omega
theorem grd_of {ρ : Type} {c : Bool} {x : Option ρ} (h : c = true) : grd c x = x := by rw [h]; rfl
theorem dropI {α : Type} (d : α) (xs : List α) (i : Int) (h0 : 0 ≤ i) (h1 : i < (xs.length : Int)) : xs.drop i.toNat = rdOf d xs i :: xs.drop (i + 1).toNat := by
  have h : i.toNat < xs.length := by omega
  rw [List.drop_eq_getElem_cons h, show (i + 1).toNat = i.toNat + 1 by omega]
  unfold rdOf
  rw [List.getD_eq_getElem?_getD, List.getElem?_eq_getElem h]
  rfl
theorem dropE {α : Type} (xs : List α) (i : Int) (h1 : (xs.length : Int) ≤ i) : xs.drop i.toNat = [] := List.drop_eq_nil_of_le (by omega)
theorem bne_int (a b : Nat) : ((a : Int) != (b : Int)) = !(decide (a = b)) := by
  by_cases h : a = b
  · subst h; simp
  · have : (a : Int) ≠ b := by omega
    simp [h, this]
theorem beq_self_int (a : Int) : (a == a) = true := by simp
theorem grd_self {ρ : Type} (a : Int) (x : Option ρ) : grd (a == a) x = x := grd_of (by simp)
theorem grd_dec {ρ : Type} {p : Prop} [Decidable p] (h : p) (x : Option ρ) : grd (decide p) x = x := grd_of (decide_eq_true h)
theorem bif_dec_t {α : Type} {p : Prop} [Decidable p] (h : p) (x y : α) : (bif decide p then x else y) = x := by rw [decide_eq_true h]; rfl
theorem bif_dec_f {α : Type} {p : Prop} [Decidable p] (h : ¬ p) (x y : α) : (bif decide p then x else y) = y := by rw [decide_eq_false h]; rfl
/-- A loop over an index. -/
theorem scan_run {ε σ ρ : Type} {step : (ε → Option ρ) → ε → Option ρ} (n : Int) (mk : Int → σ → ε) (R : Int → σ → Option ρ) (J : Int → σ → Prop)
    (h : ∀ rec i s, 0 ≤ i → i ≤ n → J i s → (i < n → ∀ s', J (i + 1) s' → rec (mk (i + 1) s') = R (i + 1) s') → step rec (mk i s) = R i s) :
    ∀ k i s, 0 ≤ i → i ≤ n → J i s → (n - i).toNat < k → iter step k (mk i s) = R i s
  | 0, _, _, _, _, _, hk => absurd hk (Nat.not_lt_zero _)
  | k + 1, i, s, h0, h1, hJ, hk => h _ i s h0 h1 hJ (fun hlt s' hJ' => scan_run n mk R J h k (i + 1) s' (by omega) (by omega) hJ' (by omega))
/-- A loop that asks p of each. -/
theorem all_loop {α ε ρ : Type} {step : (ε → Option ρ) → ε → Option ρ} (d : α) (xs : List α) (p : α → Bool) (K F : Option ρ) (mk : Int → ε)
    (h1 : ∀ rec i, 0 ≤ i → i < (xs.length : Int) → rdOf d xs i ∈ xs → step rec (mk i) = bif p (rdOf d xs i) then rec (mk (i + 1)) else F) (h2 : ∀ rec, step rec (mk (xs.length : Int)) = K) (k : Nat) (hk : xs.length < k) :
    iter step k (mk 0) = bif xs.all p then K else F := by
  refine scan_run (step := step) (xs.length : Int) (fun i (_ : Unit) => mk i) (fun i _ => bif (xs.drop i.toNat).all p then K else F) (fun _ _ => True) ?_ k 0 () (Int.le_refl _) (by omega) trivial (by omega)
  intro rec i _ h0 hle _ ih
  by_cases hlt : i < (xs.length : Int)
  · have hm : rdOf d xs i ∈ xs := by
      unfold rdOf
      have h : i.toNat < xs.length := by omega
      rw [List.getD_eq_getElem?_getD, List.getElem?_eq_getElem h]
      exact List.getElem_mem h
    rw [h1 rec i h0 hlt hm, dropI d xs i h0 hlt, List.all_cons, ih hlt () trivial]
    cases p (rdOf d xs i) <;> rfl
  · have : i = (xs.length : Int) := by omega
    subst this
    rw [h2 rec, dropE xs _ (Int.le_refl _)]
    rfl
/-! ### custody: small lists of whole numbers -/
def hasI (l : List Int) (n : Int) : Bool := l.any (fun x => x == n)
theorem any_loop {α ε ρ : Type} {step : (ε → Option ρ) → ε → Option ρ} (d : α) (xs : List α) (p : α → Bool) (K F : Option ρ) (mk : Int → ε)
    (h1 : ∀ rec i, 0 ≤ i → i < (xs.length : Int) → step rec (mk i) = bif p (rdOf d xs i) then F else rec (mk (i + 1))) (h2 : ∀ rec, step rec (mk (xs.length : Int)) = K) (k : Nat) (hk : xs.length < k) :
    iter step k (mk 0) = bif xs.any p then F else K := by
  refine scan_run (step := step) (xs.length : Int) (fun i (_ : Unit) => mk i) (fun i _ => bif (xs.drop i.toNat).any p then F else K) (fun _ _ => True) ?_ k 0 () (Int.le_refl _) (by omega) trivial (by omega)
  intro rec i _ h0 hle _ ih
  by_cases hlt : i < (xs.length : Int)
  · rw [h1 rec i h0 hlt, dropI d xs i h0 hlt, List.any_cons, ih hlt () trivial]
    cases p (rdOf d xs i) <;> rfl
  · have : i = (xs.length : Int) := by omega
    subst this
    rw [h2 rec, dropE xs _ (Int.le_refl _)]
    rfl
theorem spec_has_eq (l : List Int) (n : Int) (h : l.length ≤ 1000000000) : spec_l1Has l n = some (hasI l n) := by
  refine lim_eq (l.length + 1) fun k hk => ?_
  unfold spec_l1Has.g
  refine (any_loop (step := spec_l1Has.s0 k) 0 l (fun x => x == n) (some false) (some true) (fun i => (n, l, (l.length : Int), i)) ?_ ?_ k (by omega)).trans ?_
  · intro rec i h0 h1
    unfold spec_l1Has.s0
    simp only []
    rw [bif_dec_t h1, grd_dec h0, grd_dec h1, w64_id (by omega) (by omega)]
  · intro rec
    unfold spec_l1Has.s0
    simp only []
    rw [bif_dec_f (Int.lt_irrefl _)]
  · unfold hasI
    cases l.any (fun x => x == n) <;> rfl
/-- rising, and each from 0 below n -/
def riseGo (n : Int) : Int → List Int → Bool
  | _, [] => true
  | p, x :: r => decide (0 ≤ x) && decide (x < n) && decide (p < x) && riseGo n x r
def riseB (l : List Int) (n : Int) : Bool := riseGo n (-1) l
theorem impl_rise_eq (l : List Int) (n : Int) (h : l.length ≤ 1000000000) : impl_rise l n = some (riseB l n) := by
  refine lim_eq (l.length + 1) fun k hk => ?_
  unfold impl_rise.g
  refine (scan_run (step := impl_rise.s0 k) (l.length : Int) (fun i (_ : Unit) => (l, n, l, (l.length : Int), i)) (fun i _ => some (riseGo n (bif decide (0 < i) then rdOf 0 l (i - 1) else -1) (l.drop i.toNat))) (fun _ _ => True) ?_ k 0 () (Int.le_refl _) (by omega) trivial (by omega)).trans ?_
  · intro rec i _ h0 h1 _ ih
    unfold impl_rise.s0
    simp only []
    by_cases hlt : i < (l.length : Int)
    · have ih := ih hlt () trivial
      rw [bif_dec_t (show (0 : Int) < i + 1 by omega), show i + 1 - 1 = i by omega] at ih
      rw [bif_dec_t hlt, grd_dec h0, grd_dec hlt, w64_id (n := i + 1) (by omega) (by omega), dropI 0 l i h0 hlt, riseGo, ih]
      generalize rdOf 0 l i = x
      by_cases hx : x < 0
      · rw [bif_dec_t hx, decide_eq_false (show ¬ 0 ≤ x by omega)]; rfl
      · rw [bif_dec_f hx, decide_eq_true (show 0 ≤ x by omega)]
        by_cases hn : x ≥ n
        · rw [bif_dec_t hn, decide_eq_false (show ¬ x < n by omega)]; rfl
        · rw [bif_dec_f hn, decide_eq_true (show x < n by omega)]
          by_cases hi : i > 0
          · rw [bif_dec_t hi, w64_id (n := i - 1) (by omega) (by omega), grd_dec (by omega), grd_dec (by omega), bif_dec_t (show 0 < i from hi)]
            by_cases hp : x ≤ rdOf 0 l (i - 1)
            · rw [bif_dec_t hp, decide_eq_false (show ¬ rdOf 0 l (i - 1) < x by omega)]; rfl
            · rw [bif_dec_f hp, decide_eq_true (show rdOf 0 l (i - 1) < x by omega)]; rfl
          · rw [bif_dec_f hi, bif_dec_f (show ¬ 0 < i from hi), decide_eq_true (show -1 < x by omega)]; rfl
    · rw [bif_dec_f hlt, dropE l i (by omega)]
      rfl
  · rfl
theorem spec_some_eq (l : List Int) (n : Int) (h : l.length ≤ 1000000000) : spec_l1Some l n = some (riseB l n) := by
  refine lim_eq (l.length + 1) fun k hk => ?_
  unfold spec_l1Some.g
  refine (scan_run (step := spec_l1Some.s0 k) (l.length : Int) (fun i (_ : Unit) => (l, n, l, (l.length : Int), i)) (fun i _ => some (riseGo n (bif decide (0 < i) then rdOf 0 l (i - 1) else -1) (l.drop i.toNat))) (fun _ _ => True) ?_ k 0 () (Int.le_refl _) (by omega) trivial (by omega)).trans ?_
  · intro rec i _ h0 h1 _ ih
    unfold spec_l1Some.s0
    simp only []
    by_cases hlt : i < (l.length : Int)
    · have ih := ih hlt () trivial
      rw [bif_dec_t (show (0 : Int) < i + 1 by omega), show i + 1 - 1 = i by omega] at ih
      rw [bif_dec_t hlt, grd_dec h0, grd_dec hlt, w64_id (n := i + 1) (by omega) (by omega), dropI 0 l i h0 hlt, riseGo, ih]
      generalize rdOf 0 l i = x
      by_cases hx : x < 0
      · rw [bif_dec_t hx, decide_eq_false (show ¬ 0 ≤ x by omega)]; rfl
      · rw [bif_dec_f hx, decide_eq_true (show 0 ≤ x by omega)]
        by_cases hn : x ≥ n
        · rw [bif_dec_t hn, decide_eq_false (show ¬ x < n by omega)]; rfl
        · rw [bif_dec_f hn, decide_eq_true (show x < n by omega)]
          by_cases hi : i > 0
          · rw [bif_dec_t hi, w64_id (n := i - 1) (by omega) (by omega), grd_dec (by omega), grd_dec (by omega), bif_dec_t (show 0 < i from hi)]
            by_cases hp : rdOf 0 l (i - 1) ≥ x
            · rw [bif_dec_t hp, decide_eq_false (show ¬ rdOf 0 l (i - 1) < x by omega)]; rfl
            · rw [bif_dec_f hp, decide_eq_true (show rdOf 0 l (i - 1) < x by omega)]; rfl
          · rw [bif_dec_f hi, bif_dec_f (show ¬ 0 < i from hi), decide_eq_true (show -1 < x by omega)]; rfl
    · rw [bif_dec_f hlt, dropE l i (by omega)]
      rfl
  · rfl
theorem rise_parts : ∀ (l : List Int) (n p : Int), riseGo n p l = true → (∀ x ∈ l, p < x ∧ 0 ≤ x ∧ x < n) ∧ l.Pairwise (· < ·)
  | [], _, _, _ => ⟨fun x hx => absurd hx (List.not_mem_nil), List.Pairwise.nil⟩
  | y :: r, n, p, h => by
    rw [riseGo, Bool.and_eq_true, Bool.and_eq_true, Bool.and_eq_true, decide_eq_true_eq, decide_eq_true_eq, decide_eq_true_eq] at h
    obtain ⟨⟨⟨h0, h1⟩, h2⟩, h3⟩ := h
    obtain ⟨g1, g2⟩ := rise_parts r n y h3
    refine ⟨fun x hx => ?_, List.pairwise_cons.mpr ⟨fun x hx => (g1 x hx).1, g2⟩⟩
    rcases List.mem_cons.mp hx with hx | hx
    · subst hx; exact ⟨h2, h0, h1⟩
    · have := g1 x hx; omega
theorem hasI_iff (l : List Int) (n : Int) : hasI l n = true ↔ n ∈ l := by
  unfold hasI
  rw [List.any_eq_true]
  constructor
  · intro ⟨x, hx, e⟩
    have := beq_iff_eq.mp e
    subst this; exact hx
  · intro h; exact ⟨n, h, beq_self_eq_true n⟩
theorem perm_of_sub : ∀ (b a : List Int), b.Nodup → (∀ x ∈ b, x ∈ a) → a.length = b.length → b.Perm a
  | [], a, _, _, hl => by
    have : a = [] := List.eq_nil_of_length_eq_zero (by simpa using hl)
    subst this; exact List.Perm.refl _
  | x :: r, a, hn, hs, hl => by
    have hx : x ∈ a := hs x (List.mem_cons_self ..)
    have hn' := List.nodup_cons.mp hn
    have ih := perm_of_sub r (a.erase x) hn'.2 (fun y hy => (List.mem_erase_of_ne (fun e => hn'.1 (by subst e; exact hy))).mpr (hs y (List.mem_cons_of_mem _ hy))) (by rw [List.length_erase_of_mem hx, hl]; simp)
    exact (ih.cons x).trans (List.perm_cons_erase hx).symm
def sameGo (a : List Int) : List Int → List Int → Bool
  | _, [] => true
  | pre, x :: r => hasI a x && !hasI pre x && sameGo a (pre ++ [x]) r
theorem sameGo_iff (a : List Int) : ∀ (b pre : List Int), sameGo a pre b = true ↔ (∀ x ∈ b, x ∈ a ∧ ¬ x ∈ pre) ∧ b.Nodup
  | [], pre => by simp [sameGo]
  | x :: r, pre => by
    rw [sameGo, Bool.and_eq_true, Bool.and_eq_true, sameGo_iff a r (pre ++ [x]), hasI_iff, Bool.not_eq_true', List.nodup_cons]
    have hf : hasI pre x = false ↔ ¬ x ∈ pre := by
      rw [← hasI_iff]
      cases hasI pre x <;> simp
    rw [hf]
    constructor
    · intro ⟨⟨h1, h2⟩, h3, h4⟩
      refine ⟨fun y hy => ?_, fun hx => (h3 x hx).2 (List.mem_append_right _ (List.mem_singleton.mpr rfl)), h4⟩
      rcases List.mem_cons.mp hy with hy | hy
      · subst hy; exact ⟨h1, h2⟩
      · exact ⟨(h3 y hy).1, fun hh => (h3 y hy).2 (List.mem_append_left _ hh)⟩
    · intro ⟨h1, h2, h3⟩
      refine ⟨h1 x (List.mem_cons_self ..), fun y hy => ⟨(h1 y (List.mem_cons_of_mem _ hy)).1, fun hh => ?_⟩, h3⟩
      rcases List.mem_append.mp hh with hh | hh
      · exact (h1 y (List.mem_cons_of_mem _ hy)).2 hh
      · have := List.mem_singleton.mp hh
        subst this; exact h2 hy
theorem sortI_perm (b : List Int) : (sortI b).Perm b := List.mergeSort_perm b _
theorem sortI_sorted (b : List Int) : (sortI b).Pairwise (fun x y => x ≤ y) :=
  (List.pairwise_mergeSort (le := fun a b => decide (a ≤ b)) (fun a b c h1 h2 => by simp at *; omega) (fun a b => by simp; omega) b).imp (fun h => by simpa using h)
theorem same_iff (a b : List Int) (n p : Int) (ha : riseGo n p a = true) : (sameGo a [] b && decide (a.length = b.length)) = (sortI b == a) := by
  obtain ⟨_, hp⟩ := rise_parts a n p ha
  rw [Bool.eq_iff_iff, Bool.and_eq_true, sameGo_iff, decide_eq_true_eq, beq_iff_eq]
  constructor
  · intro ⟨⟨h1, h2⟩, h3⟩
    have hperm := perm_of_sub b a h2 (fun x hx => (h1 x hx).1) h3
    exact List.Perm.eq_of_pairwise (fun x y _ _ h1 h2 => by omega) (sortI_sorted b) (hp.imp (fun h => by omega)) ((sortI_perm b).trans hperm)
  · intro h
    have hperm : a.Perm b := by rw [← h]; exact sortI_perm b
    have hn : a.Nodup := hp.imp (fun h => by omega)
    exact ⟨⟨fun x hx => ⟨hperm.mem_iff.mpr hx, List.not_mem_nil⟩, hperm.nodup hn⟩, hperm.length_eq⟩
theorem spec_same_eq (a b : List Int) (ha : a.length ≤ 1000000000) (hb : b.length ≤ 1000000000) : spec_l16Same a b = some (sameGo a [] b && decide (a.length = b.length)) := by
  refine lim_eq (b.length + 1) fun k hk => ?_
  unfold spec_l16Same.g
  refine (scan_run (step := spec_l16Same.s0 k) (b.length : Int) (fun i (_ : Unit) => (a, b, b, (b.length : Int), i)) (fun i _ => some (sameGo a (b.take i.toNat) (b.drop i.toNat) && decide (a.length = b.length))) (fun _ _ => True) ?_ k 0 () (Int.le_refl _) (by omega) trivial (by omega)).trans ?_
  · intro rec i _ h0 h1 _ ih
    unfold spec_l16Same.s0
    simp only []
    by_cases hlt : i < (b.length : Int)
    · have ih := ih hlt () trivial
      have ht : b.take (i + 1).toNat = b.take i.toNat ++ [rdOf 0 b i] := by
        have hi : i.toNat < b.length := by omega
        rw [show (i + 1).toNat = i.toNat + 1 by omega, List.take_succ_eq_append_getElem hi]
        unfold rdOf
        rw [List.getD_eq_getElem?_getD, List.getElem?_eq_getElem hi]
        rfl
      have hcut : cut b 0 i = b.take i.toNat := by simp [cut]
      rw [bif_dec_t hlt, grd_dec h0, grd_dec hlt, w64_id (n := i + 1) (by omega) (by omega), spec_has_eq a _ ha, Option.bind_some, grd_dec h0, grd_dec h1, hcut, spec_has_eq _ _ (by rw [List.length_take]; omega), Option.bind_some, dropI 0 b i h0 hlt, sameGo, ih, ht]
      cases hasI a (rdOf 0 b i) <;> cases hasI (b.take i.toNat) (rdOf 0 b i) <;> rfl
    · rw [bif_dec_f hlt, dropE b i (by omega), sameGo, Bool.true_and]
      congr 1
      rw [Bool.eq_iff_iff]
      simp
      omega
  · rfl
theorem in_eq (n lo hi : Int) : spec_l1In n lo hi = some (decide (lo ≤ n) && decide (n ≤ hi)) := by
  unfold spec_l1In
  by_cases h : lo ≤ n
  · rw [bif_dec_t h, decide_eq_true h]; rfl
  · rw [bif_dec_f h, decide_eq_false h]; rfl
theorem within_eq (n lo hi : Int) : impl_within n lo hi = some (decide (lo ≤ n) && decide (n ≤ hi)) := by
  unfold impl_within
  cases decide (lo ≤ n) <;> rfl
def treeGo : Int → List Int → Bool
  | _, [] => true
  | i, x :: r => (bif i == 0 then x == -1 else decide (0 ≤ x) && decide (x < i)) && treeGo (i + 1) r
def treeB (up : List Int) : Bool := treeGo 0 up && (decide (1 ≤ up.length) && decide (up.length ≤ 8))
theorem len_18 (l : List Int) : (decide ((1 : Int) ≤ (l.length : Int)) && decide ((l.length : Int) ≤ 8)) = (decide (1 ≤ l.length) && decide (l.length ≤ 8)) := by
  congr 1 <;> rw [decide_eq_decide] <;> omega
theorem spec_tree_eq (up : List Int) (h : up.length ≤ 1000000000) : spec_l16Tree up = some (treeB up) := by
  refine lim_eq (up.length + 1) fun k hk => ?_
  unfold spec_l16Tree.g
  refine (scan_run (step := spec_l16Tree.s0 k) (up.length : Int) (fun i (_ : Unit) => (up, up, (up.length : Int), i)) (fun i _ => some (treeGo i (up.drop i.toNat) && (decide (1 ≤ up.length) && decide (up.length ≤ 8)))) (fun _ _ => True) ?_ k 0 () (Int.le_refl _) (by omega) trivial (by omega)).trans ?_
  · intro rec i _ h0 h1 _ ih
    unfold spec_l16Tree.s0
    simp only []
    by_cases hlt : i < (up.length : Int)
    · rw [bif_dec_t hlt, grd_dec h0, grd_dec hlt, w64_id (n := i + 1) (by omega) (by omega), dropI 0 up i h0 hlt, treeGo, ih hlt () trivial]
      generalize rdOf 0 up i = x
      cases hi : i == 0 with
      | true =>
        have hi := beq_iff_eq.mp hi
        subst hi
        cases hx : x == -1 with
        | false => rfl
        | true =>
          have hx := beq_iff_eq.mp hx
          subst hx
          rfl
      | false =>
        have hi' : i ≠ 0 := fun e => by rw [e] at hi; cases hi
        cases hx : x == -1 with
        | true =>
          have hx := beq_iff_eq.mp hx
          subst hx
          rfl
        | false =>
          have hx' : x ≠ -1 := fun e => by rw [e] at hx; cases hx
          simp only [beq_self_eq_true, Bool.not_true, cond_false]
          by_cases h2 : x < -1
          · rw [bif_dec_t h2, decide_eq_false (show ¬ 0 ≤ x by omega)]; rfl
          · rw [bif_dec_f h2, decide_eq_true (show 0 ≤ x by omega)]
            by_cases h3 : x ≥ i
            · rw [bif_dec_t h3, decide_eq_false (show ¬ x < i by omega)]; rfl
            · rw [bif_dec_f h3, decide_eq_true (show x < i by omega)]; rfl
    · rw [bif_dec_f hlt, dropE up i (by omega), in_eq, Option.bind_some, len_18]
      rfl
  · rfl
theorem impl_tree_eq (up : List Int) : impl_isTree up = some (treeB up) := by
  refine lim_eq (up.length + 1) fun k hk => ?_
  unfold impl_isTree.g treeB
  rw [within_eq, Option.bind_some, len_18]
  cases hl : decide (1 ≤ up.length) && decide (up.length ≤ 8) with
  | false => rw [Bool.and_false]; rfl
  | true =>
    have hl' := Bool.and_eq_true_iff.mp hl
    have hl1 := of_decide_eq_true hl'.1
    have hl2 := of_decide_eq_true hl'.2
    simp only [Bool.not_true, cond_false, Bool.and_true]
    rw [grd_dec (by omega), bne]
    have hd := dropI 0 up 0 (Int.le_refl _) (by omega)
    have hd : up = rdOf 0 up 0 :: up.drop 1 := hd
    cases h0 : rdOf 0 up 0 == -1 with
    | false =>
      rw [hd, treeGo]
      simp only [h0]
      rfl
    | true =>
      simp only [Bool.not_true, cond_false]
      refine (scan_run (step := impl_isTree.s0 k) (up.length : Int) (fun i (_ : Unit) => (up, (up.length : Int), i)) (fun i _ => some (treeGo i (up.drop i.toNat))) (fun _ _ => True) ?_ k 0 () (Int.le_refl _) (by omega) trivial (by omega)).trans ?_
      · intro rec i _ h0' h1 _ ih
        unfold impl_isTree.s0
        simp only []
        by_cases hlt : i < (up.length : Int)
        · rw [bif_dec_t hlt, grd_dec h0', grd_dec hlt, w64_id (n := i + 1) (by omega) (by omega), dropI 0 up i h0' hlt, treeGo, ih hlt () trivial]
          by_cases hi : i > 0
          · rw [bif_dec_t hi, within_eq, Option.bind_some, w64_id (n := i - 1) (by omega) (by omega), show (i == 0) = false from Bool.eq_false_iff.mpr (fun e => by have := beq_iff_eq.mp e; omega), cond_false]
            rw [show decide (rdOf 0 up i ≤ i - 1) = decide (rdOf 0 up i < i) from decide_eq_decide.mpr (by omega)]
            cases decide (0 ≤ rdOf 0 up i) && decide (rdOf 0 up i < i) <;> rfl
          · have hi : i = 0 := by omega
            subst hi
            rw [bif_dec_f (show ¬ (0 : Int) > 0 by omega), h0]
            rfl
        · rw [bif_dec_f hlt, dropE up i (by omega)]
          rfl
      · rfl
def idxGo {α : Type} (p : α → Bool) : Int → List α → Int
  | _, [] => -1
  | i, x :: r => bif p x then i else idxGo p (i + 1) r
theorem idxGo_any {α : Type} (p : α → Bool) : ∀ (l : List α) (i : Int), 0 ≤ i → decide (idxGo p i l ≥ 0) = l.any p
  | [], _, _ => rfl
  | x :: r, i, h => by
    rw [idxGo, List.any_cons]
    cases p x with
    | true => rw [cond_true, decide_eq_true (show i ≥ 0 from h)]; rfl
    | false => rw [cond_false, idxGo_any p r (i + 1) (by omega)]; rfl
theorem idx_loop {α ε : Type} {step : (ε → Option Int) → ε → Option Int} (d : α) (xs : List α) (p : α → Bool) (mk : Int → ε)
    (h1 : ∀ rec i, 0 ≤ i → i < (xs.length : Int) → step rec (mk i) = bif p (rdOf d xs i) then some i else rec (mk (i + 1))) (h2 : ∀ rec, step rec (mk (xs.length : Int)) = some (-1)) (k : Nat) (hk : xs.length < k) :
    iter step k (mk 0) = some (idxGo p 0 xs) := by
  refine (scan_run (step := step) (xs.length : Int) (fun i (_ : Unit) => mk i) (fun i _ => some (idxGo p i (xs.drop i.toNat))) (fun _ _ => True) ?_ k 0 () (Int.le_refl _) (by omega) trivial (by omega)).trans rfl
  intro rec i _ h0 hle _ ih
  by_cases hlt : i < (xs.length : Int)
  · rw [h1 rec i h0 hlt, dropI d xs i h0 hlt, idxGo, ih hlt () trivial]
    cases p (rdOf d xs i) <;> rfl
  · have : i = (xs.length : Int) := by omega
    subst this
    rw [h2 rec, dropE xs _ (Int.le_refl _)]
    rfl
theorem contains_int_eq (l : List Int) (n : Int) (h : l.length ≤ 1000000000) : slices_Contains_int l n = some (hasI l n) := by
  have e : slices_Index_int l n = some (idxGo (fun x => n == x) 0 l) := by
    refine lim_eq (l.length + 1) fun k hk => ?_
    unfold slices_Index_int.g
    refine idx_loop (step := slices_Index_int.s0 k) 0 l (fun x => n == x) (fun i => (l, n, (l.length : Int), i)) ?_ ?_ k (by omega)
    · intro rec i h0 h1
      unfold slices_Index_int.s0
      simp only []
      rw [bif_dec_t h1, grd_dec h0, grd_dec h1, w64_id (by omega) (by omega)]
    · intro rec
      unfold slices_Index_int.s0
      simp only []
      rw [bif_dec_f (Int.lt_irrefl _)]
  unfold slices_Contains_int
  rw [e, Option.bind_some, idxGo_any _ _ _ (Int.le_refl _)]
  unfold hasI
  congr 2
  funext x
  rw [Bool.eq_iff_iff, beq_iff_eq, beq_iff_eq]
  exact eq_comm
def hasH (l : List (Int × Int)) (a b : Int) : Bool := l.any (fun x => (x.1 == a) && (x.2 == b))
theorem spec_hasH_eq (l : List (Int × Int)) (a b : Int) (h : l.length ≤ 1000000000) : spec_l16Has l a b = some (hasH l a b) := by
  refine lim_eq (l.length + 1) fun k hk => ?_
  unfold spec_l16Has.g
  refine (any_loop (step := spec_l16Has.s0 k) (0, 0) l (fun x => (x.1 == a) && (x.2 == b)) (some false) (some true) (fun i => (l, (l.length : Int), i, a, b)) ?_ ?_ k (by omega)).trans ?_
  · intro rec i h0 h1
    unfold spec_l16Has.s0
    simp only []
    rw [bif_dec_t h1, grd_dec h0, grd_dec h1, w64_id (by omega) (by omega)]
  · intro rec
    unfold spec_l16Has.s0
    simp only []
    rw [bif_dec_f (Int.lt_irrefl _)]
  · unfold hasH
    cases l.any (fun x => (x.1 == a) && (x.2 == b)) <;> rfl
theorem contains_Hold_eq (l : List (Int × Int)) (a b : Int) (h : l.length ≤ 1000000000) : slices_Contains_Hold l a b = some (hasH l a b) := by
  have e : slices_Index_Hold l a b = some (idxGo (fun x : Int × Int => (a == x.1) && (b == x.2)) 0 l) := by
    refine lim_eq (l.length + 1) fun k hk => ?_
    unfold slices_Index_Hold.g
    refine idx_loop (step := slices_Index_Hold.s0 k) (0, 0) l (fun x : Int × Int => (a == x.1) && (b == x.2)) (fun i => (l, (l.length : Int), i, a, b)) ?_ ?_ k (by omega)
    · intro rec i h0 h1
      unfold slices_Index_Hold.s0
      simp only []
      rw [bif_dec_t h1, grd_dec h0, grd_dec h1, w64_id (by omega) (by omega)]
    · intro rec
      unfold slices_Index_Hold.s0
      simp only []
      rw [bif_dec_f (Int.lt_irrefl _)]
  unfold slices_Contains_Hold
  rw [e, Option.bind_some, idxGo_any _ _ _ (Int.le_refl _)]
  unfold hasH
  congr 2
  funext x
  rw [Bool.eq_iff_iff, Bool.and_eq_true, Bool.and_eq_true, beq_iff_eq, beq_iff_eq, beq_iff_eq, beq_iff_eq]
  constructor
  · intro ⟨h1, h2⟩; exact ⟨h1.symm, h2.symm⟩
  · intro ⟨h1, h2⟩; exact ⟨h1.symm, h2.symm⟩
def childGo (node : Int) : Int → List Int → List Int
  | _, [] => []
  | i, x :: r => bif decide (0 < i) && (x == node) then i :: childGo node (i + 1) r else childGo node (i + 1) r
theorem childGo_len (node : Int) : ∀ (l : List Int) (i : Int), (childGo node i l).length ≤ l.length
  | [], _ => Nat.le_refl _
  | x :: r, i => by
    have := childGo_len node r (i + 1)
    rw [childGo]
    cases decide (0 < i) && (x == node) <;> simp <;> omega
theorem spec_children_eq (up : List Int) (node : Int) (h : up.length ≤ 1000000000) : spec_l16Children up node = some (childGo node 0 up) := by
  refine lim_eq (up.length + 1) fun k hk => ?_
  unfold spec_l16Children.g
  refine (scan_run (step := spec_l16Children.s0 k) (up.length : Int) (fun i (r : List Int) => (node, up, (up.length : Int), i, r)) (fun i r => some (r ++ childGo node i (up.drop i.toNat))) (fun i r => (r.length : Int) ≤ i) ?_ k 0 [] (Int.le_refl _) (by omega) (by simp) (by omega)).trans ?_
  · intro rec i r h0 h1 hJ ih
    unfold spec_l16Children.s0
    simp only []
    by_cases hlt : i < (up.length : Int)
    · rw [bif_dec_t hlt, grd_dec h0, grd_dec hlt, w64_id (n := i + 1) (by omega) (by omega), grd_dec (show (r.length + 1) * 8 ≤ 140737488355328 by omega), dropI 0 up i h0 hlt, childGo]
      rw [ih hlt (r ++ [i]) (by simp; omega), ih hlt r (by omega)]
      by_cases hi : i > 0
      · rw [bif_dec_t hi, decide_eq_true (show 0 < i from hi)]
        cases rdOf 0 up i == node with
        | true => simp only [cond_true, Bool.and_self, List.append_assoc, List.singleton_append]
        | false => rfl
      · rw [bif_dec_f hi, decide_eq_false (show ¬ 0 < i from hi)]
        rfl
    · rw [bif_dec_f hlt, dropE up i (by omega), childGo, List.append_nil]
  · rfl
theorem mem_childGo (node : Int) : ∀ (l : List Int) (i x : Int), 0 ≤ i → (x ∈ childGo node i l ↔ i ≤ x ∧ 0 < x ∧ x < i + l.length ∧ l.getD (x - i).toNat 0 = node)
  | [], i, x, _ => by simp [childGo]; omega
  | y :: r, i, x, h => by
    have ih := mem_childGo node r (i + 1) x (by omega)
    have e : x ∈ childGo node i (y :: r) ↔ (x = i ∧ 0 < i ∧ y = node) ∨ x ∈ childGo node (i + 1) r := by
      rw [childGo]
      by_cases hc : 0 < i ∧ y = node
      · rw [decide_eq_true hc.1, show (y == node) = true from beq_iff_eq.mpr hc.2]
        simp [hc]
      · have : (decide (0 < i) && (y == node)) = false := by simp; intro a b; exact hc ⟨a, b⟩
        rw [this, cond_false]
        constructor
        · exact Or.inr
        · rintro (⟨_, a, b⟩ | hh)
          · exact absurd ⟨a, b⟩ hc
          · exact hh
    rw [e, ih]
    by_cases hx : x = i
    · subst hx
      rw [show (x - x).toNat = 0 by omega]
      simp
      constructor
      · rintro (⟨a, b⟩ | ⟨a, _⟩)
        · exact ⟨a, by omega, b⟩
        · omega
      · rintro ⟨a, _, b⟩; exact Or.inl ⟨a, b⟩
    · by_cases hl : i ≤ x
      · rw [show (x - i).toNat = (x - (i + 1)).toNat + 1 by omega]
        simp only [List.length_cons, List.getD_cons_succ]
        constructor
        · rintro (⟨a, _⟩ | ⟨a, b, c, d⟩)
          · exact absurd a hx
          · exact ⟨hl, b, by omega, d⟩
        · rintro ⟨a, b, c, d⟩; exact Or.inr ⟨by omega, b, by omega, d⟩
      · constructor
        · rintro (⟨a, _⟩ | ⟨a, _⟩) <;> omega
        · rintro ⟨a, _⟩; omega
theorem rd_in {α : Type} (d : α) (l : List α) (i : Int) (h0 : 0 ≤ i) (h1 : i < (l.length : Int)) : rdOf d l i ∈ l := by
  unfold rdOf
  have hh : i.toNat < l.length := by omega
  rw [List.getD_eq_getElem?_getD, List.getElem?_eq_getElem hh]
  exact List.getElem_mem hh
abbrev KEEP := List Int × List (Int × Int) × List Int
abbrev keep0 : KEEP := ([], [], [])
def lessB (p h : Int × Int) : Bool := decide (p.1 < h.1) || (p.1 == h.1 && decide (p.2 < h.2))
theorem spec_less_eq (p h : Int × Int) : spec_l16Less p.1 p.2 h.1 h.2 = some (lessB p h) := by
  unfold spec_l16Less lessB
  by_cases h1 : p.1 < h.1
  · rw [bif_dec_t h1, decide_eq_true h1]; rfl
  · rw [bif_dec_f h1, decide_eq_false h1]
    cases p.1 == h.1 <;> rfl
def holdGo (ids c : List Int) : Bool → Int × Int → List (Int × Int) → Bool
  | _, _, [] => true
  | f, p, h :: r => hasI ids h.1 && hasI c h.2 && (f || lessB p h) && holdGo ids c false h r
def keeperB (up : List Int) (ks : List KEEP) (n : Int) : Bool :=
  riseB (rdOf keep0 ks n).1 6 && (sameGo (rdOf keep0 ks n).1 [] (rdOf keep0 ks n).2.2 && decide ((rdOf keep0 ks n).1.length = (rdOf keep0 ks n).2.2.length)) &&
  (rdOf keep0 ks n).1.all (fun id => !decide (n > 0) || hasI (rdOf keep0 ks (rdOf 0 up n)).1 id) &&
  holdGo (rdOf keep0 ks n).1 (childGo n 0 up) true (0, 0) (rdOf keep0 ks n).2.1 &&
  (rdOf keep0 ks n).1.all (fun id => (childGo n 0 up).all (fun ch => hasI (rdOf keep0 ks ch).1 id || hasH (rdOf keep0 ks n).2.1 id ch))
theorem spec_keeper_eq (up : List Int) (ks : List KEEP) (sl : List (Int × Int × Int × Int)) (lo : List Int) (n : Int) (h0 : 0 ≤ n) (h1 : n < (ks.length : Int)) (hl : ks.length = up.length) (hu : up.length ≤ 8)
    (hup : 0 < n → 0 ≤ rdOf 0 up n ∧ rdOf 0 up n < n) (hk : ∀ x ∈ ks, x.1.length ≤ 10000000 ∧ x.2.1.length ≤ 10000000 ∧ x.2.2.length ≤ 10000000) : spec_l16Keeper up ks sl lo n = some (keeperB up ks n) := by
  have hx := hk _ (rd_in keep0 ks n h0 h1)
  have hcin : ∀ ch ∈ childGo n 0 up, 0 ≤ ch ∧ ch < (ks.length : Int) := fun ch hch => by
    have := (mem_childGo n up 0 ch (Int.le_refl _)).mp hch
    omega
  have hall : ∀ m : Int, (rdOf keep0 ks m).1.length ≤ 10000000 := by
    intro m
    unfold rdOf
    rw [List.getD_eq_getElem?_getD]
    cases hm : ks[m.toNat]? with
    | none => exact Nat.zero_le _
    | some z => exact (hk z (List.mem_of_getElem? hm)).1
  have hc := childGo_len n up 0
  refine lim_eq (10000000 + 10) fun k hkk => ?_
  unfold spec_l16Keeper.g keeperB
  rw [grd_dec h0, grd_dec h1]
  change (spec_l1Some (rdOf keep0 ks n).1 6).bind _ = _
  generalize hX : rdOf keep0 ks n = x at hx
  rw [spec_some_eq _ _ (by omega), Option.bind_some]
  cases riseB x.1 6 with
  | false => rfl
  | true =>
    simp only [Bool.not_true, cond_false, Bool.true_and]
    rw [spec_same_eq _ _ (by omega) (by omega), Option.bind_some]
    cases sameGo x.1 [] x.2.2 && decide (x.1.length = x.2.2.length) with
    | false => rfl
    | true =>
      simp only [Bool.not_true, cond_false, Bool.true_and]
      refine (all_loop (step := spec_l16Keeper.s0 k) 0 x.1 (fun id => !decide (n > 0) || hasI (rdOf keep0 ks (rdOf 0 up n)).1 id) (some (holdGo x.1 (childGo n 0 up) true (0, 0) x.2.1 && x.1.all (fun id => (childGo n 0 up).all (fun ch => hasI (rdOf keep0 ks ch).1 id || hasH x.2.1 id ch)))) (some false) (fun i => (n, x.1, (x.1.length : Int), i, up, ks, sl, lo, x.1, x.2.1, x.2.2)) ?_ ?_ k (by omega)).trans ?_
      · intro rec i i0 i1 _
        unfold spec_l16Keeper.s0
        simp only []
        rw [bif_dec_t i1, grd_dec i0, grd_dec i1, w64_id (n := i + 1) (by omega) (by omega)]
        by_cases hn : n > 0
        · have hp := hup hn
          rw [bif_dec_t hn, grd_dec h0, grd_dec (show n < (up.length : Int) by omega), grd_dec hp.1, grd_dec (show rdOf 0 up n < (ks.length : Int) by omega), decide_eq_true hn]
          change (spec_l1Has (rdOf keep0 ks (rdOf 0 up n)).1 _).bind _ = _
          rw [spec_has_eq _ _ (by have := hall (rdOf 0 up n); omega), Option.bind_some]
          cases hasI (rdOf keep0 ks (rdOf 0 up n)).1 (rdOf 0 x.1 i) <;> rfl
        · rw [bif_dec_f hn, decide_eq_false hn]
          rfl
      · intro rec
        unfold spec_l16Keeper.s0
        simp only []
        rw [bif_dec_f (Int.lt_irrefl _), spec_children_eq _ _ (by omega), Option.bind_some]
        generalize childGo n 0 up = c at hc hcin
        have K4 : iter (spec_l16Keeper.s4 k) k (x.1, (x.1.length : Int), 0, up, ks, sl, lo, x.1, x.2.1, x.2.2, c) = some (x.1.all (fun id => c.all (fun ch => hasI (rdOf keep0 ks ch).1 id || hasH x.2.1 id ch))) := by
          refine (all_loop (step := spec_l16Keeper.s4 k) 0 x.1 (fun id => c.all (fun ch => hasI (rdOf keep0 ks ch).1 id || hasH x.2.1 id ch)) (some true) (some false) (fun i => (x.1, (x.1.length : Int), i, up, ks, sl, lo, x.1, x.2.1, x.2.2, c)) ?_ ?_ k (by omega)).trans ?_
          · intro rec i i0 i1 _
            unfold spec_l16Keeper.s4
            simp only []
            rw [bif_dec_t i1, grd_dec i0, grd_dec i1]
            refine (all_loop (step := spec_l16Keeper.s6 k rec) 0 c (fun ch => hasI (rdOf keep0 ks ch).1 (rdOf 0 x.1 i) || hasH x.2.1 (rdOf 0 x.1 i) ch) (rec (x.1, (x.1.length : Int), i + 1, up, ks, sl, lo, x.1, x.2.1, x.2.2, c)) (some false) (fun j => (rdOf 0 x.1 i, x.1, (x.1.length : Int), i, (c.length : Int), j, up, ks, sl, lo, x.1, x.2.1, x.2.2, c)) ?_ ?_ k (by omega)).trans rfl
            · intro rec2 j j0 j1 hm
              have hch := hcin _ hm
              unfold spec_l16Keeper.s6
              simp only []
              rw [bif_dec_t j1, grd_dec j0, grd_dec j1, w64_id (n := j + 1) (by omega) (by omega), grd_dec hch.1, grd_dec hch.2]
              change (spec_l1Has (rdOf keep0 ks (rdOf 0 c j)).1 _).bind _ = _
              rw [spec_has_eq _ _ (by have := hall (rdOf 0 c j); omega), Option.bind_some, spec_hasH_eq _ _ _ (by omega), Option.bind_some]
              cases hasI (rdOf keep0 ks (rdOf 0 c j)).1 (rdOf 0 x.1 i) <;> cases hasH x.2.1 (rdOf 0 x.1 i) (rdOf 0 c j) <;> rfl
            · intro rec2
              unfold spec_l16Keeper.s6
              simp only []
              rw [bif_dec_f (Int.lt_irrefl _), w64_id (n := i + 1) (by omega) (by omega)]
          · intro rec
            unfold spec_l16Keeper.s4
            simp only []
            rw [bif_dec_f (Int.lt_irrefl _)]
          · cases x.1.all (fun id => c.all (fun ch => hasI (rdOf keep0 ks ch).1 id || hasH x.2.1 id ch)) <;> rfl
        refine (scan_run (step := spec_l16Keeper.s2 k) (x.2.1.length : Int) (fun i (_ : Unit) => (x.2.1, (x.2.1.length : Int), i, up, ks, sl, lo, x.1, x.2.1, x.2.2, c)) (fun i _ => some (holdGo x.1 c (!decide (i > 0)) (bif decide (i > 0) then rdOf (0, 0) x.2.1 (i - 1) else (0, 0)) (x.2.1.drop i.toNat) && x.1.all (fun id => c.all (fun ch => hasI (rdOf keep0 ks ch).1 id || hasH x.2.1 id ch)))) (fun _ _ => True) ?_ k 0 () (Int.le_refl _) (by omega) trivial (by omega)).trans rfl
        intro rec i _ i0 i1 _ ih
        unfold spec_l16Keeper.s2
        simp only []
        by_cases hlt : i < (x.2.1.length : Int)
        · have ih := ih hlt () trivial
          rw [bif_dec_t (show i + 1 > 0 by omega), decide_eq_true (show i + 1 > 0 by omega), show i + 1 - 1 = i by omega] at ih
          rw [bif_dec_t hlt, grd_dec i0, grd_dec hlt, w64_id (n := i + 1) (by omega) (by omega), spec_has_eq _ _ (by omega), Option.bind_some, spec_has_eq _ _ (by omega), Option.bind_some, dropI (0, 0) x.2.1 i i0 hlt, holdGo, ih]
          generalize rdOf (0, 0) x.2.1 i = h
          cases hasI x.1 h.1 with
          | false => rfl
          | true =>
            cases hasI c h.2 with
            | false => rfl
            | true =>
              simp only [Bool.not_true, cond_false, Bool.true_and]
              by_cases hi : i > 0
              · rw [bif_dec_t hi, bif_dec_t hi, decide_eq_true hi, w64_id (n := i - 1) (by omega) (by omega), grd_dec (by omega), grd_dec (by omega), spec_less_eq, Option.bind_some]
                cases lessB (rdOf (0, 0) x.2.1 (i - 1)) h <;> rfl
              · rw [bif_dec_f hi, decide_eq_false hi]
                rfl
        · rw [bif_dec_f hlt, K4, dropE x.2.1 i (by omega), holdGo, Bool.true_and]
      · cases x.1.all (fun id => !decide (n > 0) || hasI (rdOf keep0 ks (rdOf 0 up n)).1 id) <;> rfl
abbrev SLIP := Int × Int × Int × Int
def slipB (up : List Int) (ks : List KEEP) (z : SLIP) : Bool :=
  decide (0 ≤ z.2.1) && decide (z.2.1 < (up.length : Int)) && (decide (0 ≤ z.2.2.1) && decide (z.2.2.1 < (up.length : Int))) && (decide (0 ≤ z.2.2.2) && decide (z.2.2.2 < 6)) && hasI (rdOf keep0 ks z.2.1).1 z.2.2.2 &&
  (!(z.1 == 1) || (rdOf 0 up z.2.2.1 == z.2.1)) && (!(z.1 == 2) || (rdOf 0 up z.2.1 == z.2.2.1)) && (decide (1 ≤ z.1) && decide (z.1 ≤ 2))
def allFrom (f : Int → Bool) : Nat → Int → Bool
  | 0, _ => true
  | m + 1, i => f i && allFrom f m (i + 1)
def goodC (up : List Int) (ks : List KEEP) (sl : List SLIP) (lo : List Int) : Bool :=
  treeB up && decide (ks.length = up.length) && decide (sl.length ≤ 30) && (allFrom (keeperB up ks) ks.length 0 && (sl.all (slipB up ks) && (sameGo (rdOf keep0 ks 0).1 [] lo && decide ((rdOf keep0 ks 0).1.length = lo.length))))
theorem tree_up : ∀ (up : List Int) (i n : Int), treeGo i up = true → 0 ≤ i → i ≤ n → 0 < n → n < i + up.length → 0 ≤ up.getD (n - i).toNat 0 ∧ up.getD (n - i).toNat 0 < n
  | [], i, n, _, _, h1, _, h2 => by simp at h2; omega
  | x :: r, i, n, h, h0, h1, hn, h2 => by
    rw [treeGo, Bool.and_eq_true] at h
    by_cases e : n = i
    · subst e
      have hb : (n == 0) = false := Bool.eq_false_iff.mpr (fun e => by have := beq_iff_eq.mp e; omega)
      have h3 := h.1
      rw [hb, cond_false, Bool.and_eq_true, decide_eq_true_eq, decide_eq_true_eq] at h3
      rw [show (n - n).toNat = 0 by omega]
      exact h3
    · rw [show (n - i).toNat = (n - (i + 1)).toNat + 1 by omega, List.getD_cons_succ]
      exact tree_up r (i + 1) n h.2 (by omega) (by omega) hn (by simp at h2; omega)
theorem tree_rd {up : List Int} (h : treeB up = true) (n : Int) (h0 : 0 < n) (h1 : n < (up.length : Int)) : 0 ≤ rdOf 0 up n ∧ rdOf 0 up n < n := by
  have := tree_up up 0 n (Bool.and_eq_true_iff.mp h).1 (Int.le_refl _) (by omega) h0 (by omega)
  rw [show n - 0 = n by omega] at this
  exact this
theorem tree_len {up : List Int} (h : treeB up = true) : 1 ≤ up.length ∧ up.length ≤ 8 := by
  have := (Bool.and_eq_true_iff.mp h).2
  simpa using this
theorem bne_of {a b : Int} : (a != b) = !(a == b) := rfl
theorem spec_goodC_eq (up : List Int) (ks : List KEEP) (sl : List SLIP) (lo : List Int) (hu : up.length ≤ 1000000000) (hs : sl.length ≤ 1000000000) (hlo : lo.length ≤ 10000000)
    (hk : ∀ x ∈ ks, x.1.length ≤ 10000000 ∧ x.2.1.length ≤ 10000000 ∧ x.2.2.length ≤ 10000000) : spec_GoodCustody up ks sl lo = some (goodC up ks sl lo) := by
  have hall : ∀ m : Int, (rdOf keep0 ks m).1.length ≤ 10000000 := by
    intro m
    unfold rdOf
    rw [List.getD_eq_getElem?_getD]
    cases hm : ks[m.toNat]? with
    | none => exact Nat.zero_le _
    | some z => exact (hk z (List.mem_of_getElem? hm)).1
  refine lim_eq 100 fun k hkk => ?_
  unfold spec_GoodCustody.g goodC
  rw [spec_tree_eq up hu, Option.bind_some]
  cases ht : treeB up with
  | false => rfl
  | true =>
    have htl := tree_len ht
    simp only [Bool.not_true, cond_false, Bool.true_and]
    rw [bne_int]
    by_cases hl : ks.length = up.length
    · rw [decide_eq_true hl]
      simp only [Bool.not_true, cond_false, Bool.true_and]
      by_cases h30 : sl.length ≤ 30
      · rw [bif_dec_f (show ¬ (sl.length : Int) > 30 by omega), decide_eq_true h30, Bool.true_and]
        refine (scan_run (step := spec_GoodCustody.s0 k) (ks.length : Int) (fun i (_ : Unit) => ((ks.length : Int), i, up, ks, sl, lo)) (fun i _ => some (allFrom (keeperB up ks) ((ks.length : Int) - i).toNat i && (sl.all (slipB up ks) && (sameGo (rdOf keep0 ks 0).1 [] lo && decide ((rdOf keep0 ks 0).1.length = lo.length))))) (fun _ _ => True) ?_ k 0 () (Int.le_refl _) (by omega) trivial (by omega)).trans ?_
        · intro rec i _ i0 i1 _ ih
          unfold spec_GoodCustody.s0
          simp only []
          by_cases hlt : i < (ks.length : Int)
          · rw [bif_dec_t hlt, spec_keeper_eq up ks sl lo i i0 hlt hl htl.2 (fun hn => tree_rd ht i hn (by omega)) hk, Option.bind_some, w64_id (n := i + 1) (by omega) (by omega), ih hlt () trivial, show ((ks.length : Int) - i).toNat = ((ks.length : Int) - (i + 1)).toNat + 1 by omega, allFrom]
            cases keeperB up ks i <;> rfl
          · rw [bif_dec_f hlt, show ((ks.length : Int) - i).toNat = 0 by omega, allFrom, Bool.true_and]
            refine (all_loop (step := spec_GoodCustody.s2 k) ((0, 0, 0, 0) : SLIP) sl (slipB up ks) (some (sameGo (rdOf keep0 ks 0).1 [] lo && decide ((rdOf keep0 ks 0).1.length = lo.length))) (some false) (fun i => (sl, (sl.length : Int), i, up, ks, sl, lo)) ?_ ?_ k (by omega)).trans ?_
            · intro rec j j0 j1 _
              unfold spec_GoodCustody.s2
              simp only []
              rw [bif_dec_t j1, grd_dec j0, grd_dec j1, w64_id (n := j + 1) (by omega) (by omega)]
              unfold slipB
              generalize rdOf ((0, 0, 0, 0) : SLIP) sl j = z
              by_cases c1 : 0 ≤ z.2.1
              · rw [bif_dec_f (show ¬ z.2.1 < 0 by omega), decide_eq_true c1]
                by_cases c2 : z.2.1 < (up.length : Int)
                · rw [bif_dec_f (show ¬ z.2.1 ≥ (up.length : Int) by omega), decide_eq_true c2]
                  by_cases c3 : 0 ≤ z.2.2.1
                  · rw [bif_dec_f (show ¬ z.2.2.1 < 0 by omega), decide_eq_true c3]
                    by_cases c4 : z.2.2.1 < (up.length : Int)
                    · rw [bif_dec_f (show ¬ z.2.2.1 ≥ (up.length : Int) by omega), decide_eq_true c4]
                      have hid : spec_l16Id z.2.2.2 = some (decide (0 ≤ z.2.2.2) && decide (z.2.2.2 < 6)) := by
                        unfold spec_l16Id
                        by_cases h : z.2.2.2 ≥ 0
                        · rw [bif_dec_t h, decide_eq_true (show 0 ≤ z.2.2.2 from h)]; rfl
                        · rw [bif_dec_f h, decide_eq_false (show ¬ 0 ≤ z.2.2.2 from h)]; rfl
                      rw [hid, Option.bind_some]
                      simp only [in_eq, Option.bind_some, grd_dec c1, grd_dec c2, grd_dec c3, grd_dec c4, grd_dec (show z.2.1 < (ks.length : Int) by omega)]
                      cases decide (0 ≤ z.2.2.2) && decide (z.2.2.2 < 6) with
                      | false => rfl
                      | true =>
                        simp only [Bool.not_true, cond_false, Bool.true_and]
                        change (spec_l1Has (rdOf keep0 ks z.2.1).1 _).bind _ = _
                        rw [spec_has_eq _ _ (by have := hall z.2.1; omega), Option.bind_some]
                        simp only [bne_of]
                        cases hasI (rdOf keep0 ks z.2.1).1 z.2.2.2 <;> cases z.1 == 1 <;> cases z.1 == 2 <;> cases rdOf 0 up z.2.2.1 == z.2.1 <;> cases rdOf 0 up z.2.1 == z.2.2.1 <;> cases decide (1 ≤ z.1) && decide (z.1 ≤ 2) <;> rfl
                    · rw [bif_dec_t (show z.2.2.1 ≥ (up.length : Int) by omega), decide_eq_false c4]; rfl
                  · rw [bif_dec_t (show z.2.2.1 < 0 by omega), decide_eq_false c3]; rfl
                · rw [bif_dec_t (show z.2.1 ≥ (up.length : Int) by omega), decide_eq_false c2]; rfl
              · rw [bif_dec_t (show z.2.1 < 0 by omega), decide_eq_false c1]; rfl
            · intro rec
              unfold spec_GoodCustody.s2
              simp only []
              rw [bif_dec_f (Int.lt_irrefl _), grd_dec (show (0 : Int) < (ks.length : Int) by omega)]
              change (spec_l16Same (rdOf keep0 ks 0).1 lo).bind _ = _
              rw [spec_same_eq _ _ (by have := hall 0; omega) (by omega)]
              rfl
            · cases sl.all (slipB up ks) <;> rfl
        · rfl
      · rw [bif_dec_t (show (sl.length : Int) > 30 by omega), decide_eq_false h30]; rfl
    · rw [decide_eq_false hl]; rfl
theorem impl_less (p h : Int × Int) (h1 : -1000 ≤ p.1 ∧ p.1 ≤ 1000) (h2 : -1000 ≤ p.2 ∧ p.2 ≤ 1000) (h3 : -1000 ≤ h.1 ∧ h.1 ≤ 1000) (h4 : -1000 ≤ h.2 ∧ h.2 ≤ 1000) : ∃ c, impl_ordered p.1 p.2 h.1 h.2 = some c ∧ decide (c ≥ 0) = !lessB p h := by
  unfold impl_ordered lessB
  rw [w64_id (n := p.1 - h.1) (by omega) (by omega), w64_id (n := p.2 - h.2) (by omega) (by omega), bne_of]
  by_cases e : p.1 = h.1
  · refine ⟨p.2 - h.2, by rw [show (p.1 == h.1) = true from beq_iff_eq.mpr e]; rfl, ?_⟩
    rw [show (p.1 == h.1) = true from beq_iff_eq.mpr e, decide_eq_false (show ¬ p.1 < h.1 by omega)]
    by_cases hh : p.2 < h.2
    · rw [decide_eq_true hh, decide_eq_false (show ¬ p.2 - h.2 ≥ 0 by omega)]; rfl
    · rw [decide_eq_false hh, decide_eq_true (show p.2 - h.2 ≥ 0 by omega)]; rfl
  · have eb : (p.1 == h.1) = false := Bool.eq_false_iff.mpr (fun x => e (beq_iff_eq.mp x))
    refine ⟨p.1 - h.1, by rw [eb]; rfl, ?_⟩
    rw [eb]
    by_cases hh : p.1 < h.1
    · rw [decide_eq_true hh, decide_eq_false (show ¬ p.1 - h.1 ≥ 0 by omega)]; rfl
    · rw [decide_eq_false hh, decide_eq_true (show p.1 - h.1 ≥ 0 by omega)]; rfl
theorem impl_ordered_some (p h : Int × Int) : ∃ c, impl_ordered p.1 p.2 h.1 h.2 = some c := by
  unfold impl_ordered
  cases p.1 != h.1
  · exact ⟨_, rfl⟩
  · exact ⟨_, rfl⟩
/-- what the program asks of a hold, but its place -/
def fitH (ids up : List Int) (n : Int) (h : Int × Int) : Bool := hasI ids h.1 && (decide (1 ≤ h.2) && decide (h.2 ≤ (up.length : Int) - 1)) && (rdOf 0 up h.2 == n)
def holdI (ids up : List Int) (n : Int) : Bool → Int × Int → List (Int × Int) → Bool
  | _, _, [] => true
  | f, p, h :: r => fitH ids up n h && (f || lessB p h) && holdI ids up n false h r
def keepI (up : List Int) (ks : List KEEP) (n : Int) : Bool :=
  riseB (rdOf keep0 ks n).1 6 && (sortI (rdOf keep0 ks n).2.2 == (rdOf keep0 ks n).1) && holdI (rdOf keep0 ks n).1 up n true (0, 0) (rdOf keep0 ks n).2.1 &&
  (n == 0 || ((rdOf keep0 ks n).1.all (fun id => hasI (rdOf keep0 ks (rdOf 0 up n)).1 id) && (rdOf keep0 ks (rdOf 0 up n)).1.all (fun id => hasI (rdOf keep0 ks n).1 id || hasH (rdOf keep0 ks (rdOf 0 up n)).2.1 id n)))
theorem fit_small {ids up : List Int} {n : Int} {h : Int × Int} (hr : riseB ids 6 = true) (hu : up.length ≤ 8) (hf : fitH ids up n h = true) : (-1000 ≤ h.1 ∧ h.1 ≤ 1000) ∧ (-1000 ≤ h.2 ∧ h.2 ≤ 1000) := by
  unfold fitH at hf
  rw [Bool.and_eq_true, Bool.and_eq_true, Bool.and_eq_true, decide_eq_true_eq, decide_eq_true_eq, hasI_iff] at hf
  have := (rise_parts ids 6 (-1) hr).1 h.1 hf.1.1
  have := hf.1.2
  omega
theorem impl_holds (up : List Int) (ks : List KEEP) (sl : List SLIP) (lo : List Int) (k : Nat) (n : Int) (ids rcv : List Int) (hs : List (Int × Int)) (rec) (T : Option Bool) (hr : riseB ids 6 = true) (hu : up.length ≤ 8) (hi : ids.length ≤ 10000000) (hh : hs.length ≤ 10000000) (hk : 10000010 ≤ k)
    (hT : ∀ rec2 : _ → Option Bool, impl_GoodCustody.s2 k rec rec2 (n, ks, (ks.length : Int), n, rcv, ids, true, false, hs, (hs.length : Int), (hs.length : Int), up, ks, sl, lo, ids, hs, rcv) = T) :
    iter (impl_GoodCustody.s2 k rec) k (n, ks, (ks.length : Int), n, rcv, ids, true, false, hs, (hs.length : Int), 0, up, ks, sl, lo, ids, hs, rcv) = bif holdI ids up n true (0, 0) hs then T else some false := by
  refine (scan_run (step := impl_GoodCustody.s2 k rec) (hs.length : Int) (fun i (_ : Unit) => (n, ks, (ks.length : Int), n, rcv, ids, true, false, hs, (hs.length : Int), i, up, ks, sl, lo, ids, hs, rcv)) (fun i _ => bif holdI ids up n (!decide (i > 0)) (bif decide (i > 0) then rdOf (0, 0) hs (i - 1) else (0, 0)) (hs.drop i.toNat) then T else some false) (fun i _ => i > 0 → fitH ids up n (rdOf (0, 0) hs (i - 1)) = true) ?_ k 0 () (Int.le_refl _) (by omega) (fun h => absurd h (by omega)) (by omega)).trans rfl
  intro rec2 i _ i0 i1 hJ ih
  by_cases hlt : i < (hs.length : Int)
  · unfold impl_GoodCustody.s2
    simp only []
    have hrest : ∀ h : Int × Int, rdOf (0, 0) hs i = h → ((slices_Contains_int ids h.1).bind fun c46 =>
        bif (!c46) then
          some false
        else
          (impl_within h.2 1 (w64 ((up.length : Int) - 1))).bind fun c47 =>
          bif (!c47) then
            some false
          else
            grd (decide (0 ≤ h.2)) <| grd (decide (h.2 < (up.length : Int))) <|
            bif (rdOf 0 up h.2 != n) then
              some false
            else
              rec2 (n, ks, (ks.length : Int), n, rcv, ids, true, false, hs, (hs.length : Int), w64 (i + 1), up, ks, sl, lo, ids, hs, rcv)) = bif fitH ids up n h && holdI ids up n false h (hs.drop (i + 1).toNat) then T else some false := by
      intro h hh2
      rw [contains_int_eq _ _ (by omega), Option.bind_some, within_eq, Option.bind_some, w64_id (n := (up.length : Int) - 1) (by omega) (by omega), w64_id (n := i + 1) (by omega) (by omega), bne_of]
      cases c1 : hasI ids h.1 with
      | false => unfold fitH; rw [c1]; rfl
      | true =>
        cases c2 : decide (1 ≤ h.2) && decide (h.2 ≤ (up.length : Int) - 1) with
        | false => unfold fitH; rw [c1, c2]; rfl
        | true =>
          have c2' := Bool.and_eq_true_iff.mp c2
          have c3 := of_decide_eq_true c2'.1
          have c4 := of_decide_eq_true c2'.2
          simp only [Bool.not_true, cond_false]
          rw [grd_dec (by omega), grd_dec (by omega)]
          cases c5 : rdOf 0 up h.2 == n with
          | false => unfold fitH; rw [c1, c2, c5]; rfl
          | true =>
            have hf : fitH ids up n h = true := by unfold fitH; rw [c1, c2, c5]; rfl
            have ih := ih hlt () (fun _ => by rw [show i + 1 - 1 = i by omega, hh2]; exact hf)
            rw [bif_dec_t (show i + 1 > 0 by omega), decide_eq_true (show i + 1 > 0 by omega), show i + 1 - 1 = i by omega, hh2] at ih
            rw [hf, Bool.true_and]
            exact ih
    have hrest := hrest _ rfl
    rw [bif_dec_t hlt, grd_dec i0, grd_dec hlt, dropI (0, 0) hs i i0 hlt, holdI]
    by_cases hi0 : i > 0
    · rw [bif_dec_t hi0, bif_dec_t hi0, decide_eq_true hi0, w64_id (n := i - 1) (by omega) (by omega), grd_dec (by omega), grd_dec (by omega)]
      obtain ⟨c, hc⟩ := impl_ordered_some (rdOf (0, 0) hs (i - 1)) (rdOf (0, 0) hs i)
      rw [hc, Option.bind_some, hrest]
      cases hf : fitH ids up n (rdOf (0, 0) hs i) with
      | false =>
        rw [Bool.false_and, Bool.false_and, Bool.false_and]
        cases decide (c ≥ 0) <;> rfl
      | true =>
        have s1 := fit_small hr hu (hJ hi0)
        have s2 := fit_small hr hu hf
        obtain ⟨c', hc', e⟩ := impl_less (rdOf (0, 0) hs (i - 1)) (rdOf (0, 0) hs i) s1.1 s1.2 s2.1 s2.2
        rw [hc] at hc'
        injection hc' with hc'
        subst hc'
        rw [e]
        cases lessB (rdOf (0, 0) hs (i - 1)) (rdOf (0, 0) hs i) <;> rfl
    · rw [bif_dec_f hi0, decide_eq_false hi0]
      refine hrest.trans ?_
      cases fitH ids up n (rdOf (0, 0) hs i) <;> rfl
  · have : i = (hs.length : Int) := by omega
    subst this
    rw [hT, dropE hs _ (Int.le_refl _), holdI]
    rfl
theorem sortEq_eq (xs ys : List Int) (h : xs.length ≤ 10000000) : sortEqF xs ys = some (sortI xs == ys) := by
  unfold sortEqF
  exact bif_dec_t h _ _
theorem impl_body (up : List Int) (ks : List KEEP) (sl : List SLIP) (lo : List Int) (k : Nat) (n : Int) (rec : _ → Option Bool) (h0 : 0 ≤ n) (h1 : n < (ks.length : Int)) (hl : ks.length = up.length) (hu : up.length ≤ 8) (hkk : 10000010 ≤ k)
    (hup : 0 < n → 0 ≤ rdOf 0 up n ∧ rdOf 0 up n < n) (hk : ∀ x ∈ ks, x.1.length ≤ 10000000 ∧ x.2.1.length ≤ 10000000 ∧ x.2.2.length ≤ 10000000) :
    impl_GoodCustody.s0 k rec (ks, (ks.length : Int), n, up, ks, sl, lo) = bif keepI up ks n then rec (ks, (ks.length : Int), n + 1, up, ks, sl, lo) else some false := by
  have hx := hk _ (rd_in keep0 ks n h0 h1)
  have hin : ∀ m : Int, (rdOf keep0 ks m).1.length ≤ 10000000 ∧ (rdOf keep0 ks m).2.1.length ≤ 10000000 := by
    intro m
    unfold rdOf
    rw [List.getD_eq_getElem?_getD]
    cases hm : ks[m.toNat]? with
    | none => exact ⟨Nat.zero_le _, Nat.zero_le _⟩
    | some z => exact ⟨(hk z (List.mem_of_getElem? hm)).1, (hk z (List.mem_of_getElem? hm)).2.1⟩
  unfold impl_GoodCustody.s0 keepI
  simp only []
  rw [bif_dec_t h1, grd_dec h0, grd_dec h1]
  change (impl_rise (rdOf keep0 ks n).1 6).bind _ = _
  generalize hX : rdOf keep0 ks n = x at hx
  rw [impl_rise_eq _ _ (by omega), Option.bind_some]
  cases hr : riseB x.1 6 with
  | false => rfl
  | true =>
    simp only [Bool.not_true, cond_false, Bool.true_and]
    rw [sortEq_eq _ _ hx.2.2, Option.bind_some]
    cases sortI x.2.2 == x.1 with
    | false => rfl
    | true =>
      simp only [Bool.not_true, cond_false, Bool.true_and]
      have hT : ∀ rec2 : _ → Option Bool, impl_GoodCustody.s2 k rec rec2 (n, ks, (ks.length : Int), n, x.2.2, x.1, true, false, x.2.1, (x.2.1.length : Int), (x.2.1.length : Int), up, ks, sl, lo, x.1, x.2.1, x.2.2) =
          bif (n == 0 || (x.1.all (fun id => hasI (rdOf keep0 ks (rdOf 0 up n)).1 id) && (rdOf keep0 ks (rdOf 0 up n)).1.all (fun id => hasI x.1 id || hasH (rdOf keep0 ks (rdOf 0 up n)).2.1 id n))) then rec (ks, (ks.length : Int), n + 1, up, ks, sl, lo) else some false := by
        intro rec2
        unfold impl_GoodCustody.s2
        simp only []
        rw [bif_dec_f (Int.lt_irrefl _), w64_id (n := n + 1) (by omega) (by omega)]
        cases hn : n == 0 with
        | true => rfl
        | false =>
          have hn0 : 0 < n := by
            have : n ≠ 0 := fun e => by rw [e] at hn; cases hn
            omega
          have hp := hup hn0
          rw [cond_false, Bool.false_or, grd_dec h0, grd_dec (show n < (up.length : Int) by omega), grd_dec hp.1, grd_dec (show rdOf 0 up n < (ks.length : Int) by omega)]
          change iter (impl_GoodCustody.s4 k rec) k (n, ks, (ks.length : Int), n, x.2.2, x.1, true, false, x.1, (x.1.length : Int), 0, up, ks, sl, lo, x.1, x.2.1, x.2.2, (rdOf keep0 ks (rdOf 0 up n)).1, (rdOf keep0 ks (rdOf 0 up n)).2.1, (rdOf keep0 ks (rdOf 0 up n)).2.2) = _
          have hy := hin (rdOf 0 up n)
          generalize rdOf keep0 ks (rdOf 0 up n) = y at hy
          refine (all_loop (step := impl_GoodCustody.s4 k rec) 0 x.1 (fun id => hasI y.1 id) (bif y.1.all (fun id => hasI x.1 id || hasH y.2.1 id n) then rec (ks, (ks.length : Int), n + 1, up, ks, sl, lo) else some false) (some false) (fun i => (n, ks, (ks.length : Int), n, x.2.2, x.1, true, false, x.1, (x.1.length : Int), i, up, ks, sl, lo, x.1, x.2.1, x.2.2, y.1, y.2.1, y.2.2)) ?_ ?_ k (by omega)).trans ?_
          · intro rec3 i i0 i1 _
            unfold impl_GoodCustody.s4
            simp only []
            rw [bif_dec_t i1, grd_dec i0, grd_dec i1, w64_id (n := i + 1) (by omega) (by omega), contains_int_eq _ _ (by omega), Option.bind_some]
            cases hasI y.1 (rdOf 0 x.1 i) <;> rfl
          · intro rec3
            unfold impl_GoodCustody.s4
            simp only []
            rw [bif_dec_f (Int.lt_irrefl _)]
            refine (all_loop (step := impl_GoodCustody.s6 k rec) 0 y.1 (fun id => hasI x.1 id || hasH y.2.1 id n) (rec (ks, (ks.length : Int), n + 1, up, ks, sl, lo)) (some false) (fun i => (n, ks, (ks.length : Int), n, x.2.2, x.1, true, false, y.1, (y.1.length : Int), i, up, ks, sl, lo, x.1, x.2.1, x.2.2, y.1, y.2.1, y.2.2)) ?_ ?_ k (by omega))
            · intro rec4 i i0 i1 _
              unfold impl_GoodCustody.s6
              simp only []
              rw [bif_dec_t i1, grd_dec i0, grd_dec i1, w64_id (n := i + 1) (by omega) (by omega), contains_int_eq _ _ (by omega), Option.bind_some, contains_Hold_eq _ _ _ (by omega), Option.bind_some]
              cases hasI x.1 (rdOf 0 y.1 i) <;> cases hasH y.2.1 (rdOf 0 y.1 i) n <;> rfl
            · intro rec4
              unfold impl_GoodCustody.s6
              simp only []
              rw [bif_dec_f (Int.lt_irrefl _), w64_id (n := n + 1) (by omega) (by omega)]
          · cases x.1.all (fun id => hasI y.1 id) <;> rfl
      refine (impl_holds up ks sl lo k n x.1 x.2.2 x.2.1 rec _ hr hu (by omega) (by omega) hkk hT).trans ?_
      cases holdI x.1 up n true (0, 0) x.2.1 <;> rfl
def slipI (up : List Int) (ks : List KEEP) (z : SLIP) : Bool :=
  (decide (0 ≤ z.2.1) && decide (z.2.1 ≤ (up.length : Int) - 1)) && (decide (0 ≤ z.2.2.1) && decide (z.2.2.1 ≤ (up.length : Int) - 1)) && hasI (rdOf keep0 ks z.2.1).1 z.2.2.2 &&
  (bif z.1 == 1 then rdOf 0 up z.2.2.1 == z.2.1 else bif z.1 == 2 then rdOf 0 up z.2.1 == z.2.2.1 else false)
def goodI (up : List Int) (ks : List KEEP) (sl : List SLIP) (lo : List Int) : Bool :=
  treeB up && decide (ks.length = up.length) && decide (sl.length ≤ 30) && ((sortI lo == (rdOf keep0 ks 0).1) && (allFrom (keepI up ks) ks.length 0 && sl.all (slipI up ks)))
theorem impl_goodI_eq (up : List Int) (ks : List KEEP) (sl : List SLIP) (lo : List Int) (hlo : lo.length ≤ 10000000)
    (hk : ∀ x ∈ ks, x.1.length ≤ 10000000 ∧ x.2.1.length ≤ 10000000 ∧ x.2.2.length ≤ 10000000) : impl_GoodCustody up ks sl lo = some (goodI up ks sl lo) := by
  have hin : ∀ m : Int, (rdOf keep0 ks m).1.length ≤ 10000000 := by
    intro m
    unfold rdOf
    rw [List.getD_eq_getElem?_getD]
    cases hm : ks[m.toNat]? with
    | none => exact Nat.zero_le _
    | some z => exact (hk z (List.mem_of_getElem? hm)).1
  refine lim_eq 10000010 fun k hkk => ?_
  unfold impl_GoodCustody.g goodI
  rw [impl_tree_eq up, Option.bind_some]
  cases ht : treeB up with
  | false => rfl
  | true =>
    have htl := tree_len ht
    simp only [Bool.not_true, cond_false, Bool.true_and]
    rw [bne_int]
    by_cases hl : ks.length = up.length
    · rw [decide_eq_true hl]
      simp only [Bool.not_true, cond_false, Bool.true_and]
      by_cases h30 : sl.length ≤ 30
      · rw [bif_dec_f (show ¬ (sl.length : Int) > 30 by omega), decide_eq_true h30, Bool.true_and, grd_dec (show (0 : Int) < (ks.length : Int) by omega)]
        change (sortEqF lo (rdOf keep0 ks 0).1).bind _ = _
        rw [sortEq_eq _ _ hlo, Option.bind_some]
        cases sortI lo == (rdOf keep0 ks 0).1 with
        | false => rfl
        | true =>
          simp only [Bool.not_true, cond_false, Bool.true_and]
          refine (scan_run (step := impl_GoodCustody.s0 k) (ks.length : Int) (fun i (_ : Unit) => (ks, (ks.length : Int), i, up, ks, sl, lo)) (fun i _ => some (allFrom (keepI up ks) ((ks.length : Int) - i).toNat i && sl.all (slipI up ks))) (fun _ _ => True) ?_ k 0 () (Int.le_refl _) (by omega) trivial (by omega)).trans ?_
          · intro rec i _ i0 i1 _ ih
            by_cases hlt : i < (ks.length : Int)
            · rw [impl_body up ks sl lo k i rec i0 hlt hl htl.2 hkk (fun hn => tree_rd ht i hn (by omega)) hk, ih hlt () trivial, show ((ks.length : Int) - i).toNat = ((ks.length : Int) - (i + 1)).toNat + 1 by omega, allFrom]
              cases keepI up ks i <;> rfl
            · have : i = (ks.length : Int) := by omega
              subst this
              unfold impl_GoodCustody.s0
              simp only []
              rw [bif_dec_f (Int.lt_irrefl _), show ((ks.length : Int) - (ks.length : Int)).toNat = 0 by omega, allFrom, Bool.true_and]
              refine (all_loop (step := impl_GoodCustody.s8 k) ((0, 0, 0, 0) : SLIP) sl (slipI up ks) (some true) (some false) (fun i => (sl, (sl.length : Int), i, up, ks, sl, lo)) ?_ ?_ k (by omega)).trans ?_
              · intro rec j j0 j1 _
                unfold impl_GoodCustody.s8
                simp only []
                rw [bif_dec_t j1, grd_dec j0, grd_dec j1, w64_id (n := j + 1) (by omega) (by omega)]
                unfold slipI
                generalize rdOf ((0, 0, 0, 0) : SLIP) sl j = z
                simp only [within_eq, Option.bind_some, w64_id (n := (up.length : Int) - 1) (by omega) (by omega)]
                cases c1 : decide (0 ≤ z.2.1) && decide (z.2.1 ≤ (up.length : Int) - 1) with
                | false => rfl
                | true =>
                  have c1' := Bool.and_eq_true_iff.mp c1
                  have a1 := of_decide_eq_true c1'.1
                  have a2 := of_decide_eq_true c1'.2
                  cases c2 : decide (0 ≤ z.2.2.1) && decide (z.2.2.1 ≤ (up.length : Int) - 1) with
                  | false => rfl
                  | true =>
                    have c2' := Bool.and_eq_true_iff.mp c2
                    have b1 := of_decide_eq_true c2'.1
                    have b2 := of_decide_eq_true c2'.2
                    simp only [Bool.not_true, cond_false, Bool.true_and]
                    rw [grd_dec a1, grd_dec (show z.2.1 < (ks.length : Int) by omega)]
                    change (slices_Contains_int (rdOf keep0 ks z.2.1).1 _).bind _ = _
                    rw [contains_int_eq _ _ (by have := hin z.2.1; omega), Option.bind_some, grd_dec b1, grd_dec (show z.2.2.1 < (up.length : Int) by omega), grd_dec a1, grd_dec (show z.2.1 < (up.length : Int) by omega)]
                    simp only [bne_of]
                    cases hasI (rdOf keep0 ks z.2.1).1 z.2.2.2 <;> cases z.1 == 1 <;> cases z.1 == 2 <;> cases rdOf 0 up z.2.2.1 == z.2.1 <;> cases rdOf 0 up z.2.1 == z.2.2.1 <;> rfl
              · intro rec
                unfold impl_GoodCustody.s8
                simp only []
                rw [bif_dec_f (Int.lt_irrefl _)]
              · cases sl.all (slipI up ks) <;> rfl
          · rfl
      · rw [bif_dec_t (show (sl.length : Int) > 30 by omega), decide_eq_false h30]; rfl
    · rw [decide_eq_false hl]; rfl
theorem allFrom_iff (f : Int → Bool) : ∀ (m : Nat) (i : Int), allFrom f m i = true ↔ ∀ j, i ≤ j → j < i + m → f j = true
  | 0, i => by
    constructor
    · intro _ j h1 h2; omega
    · intro _; rfl
  | m + 1, i => by
    rw [allFrom, Bool.and_eq_true, allFrom_iff f m (i + 1)]
    constructor
    · intro ⟨h1, h2⟩ j hj hj2
      by_cases e : j = i
      · subst e; exact h1
      · exact h2 j (by omega) (by omega)
    · intro h
      exact ⟨h i (Int.le_refl _) (by omega), fun j hj hj2 => h j (by omega) (by omega)⟩
theorem fitH_eq (ids up : List Int) (n : Int) (h : Int × Int) : fitH ids up n h = (hasI ids h.1 && hasI (childGo n 0 up) h.2) := by
  unfold fitH
  rw [Bool.and_assoc]
  congr 1
  rw [Bool.eq_iff_iff, Bool.and_eq_true, Bool.and_eq_true, decide_eq_true_eq, decide_eq_true_eq, beq_iff_eq, hasI_iff, mem_childGo n up 0 h.2 (Int.le_refl _), show h.2 - 0 = h.2 by omega]
  constructor
  · intro ⟨⟨a, b⟩, c⟩; exact ⟨by omega, by omega, by omega, c⟩
  · intro ⟨a, b, c, d⟩; exact ⟨⟨by omega, by omega⟩, d⟩
theorem holdI_eq (ids up : List Int) (n : Int) : ∀ (l : List (Int × Int)) (f : Bool) (p : Int × Int), holdI ids up n f p l = holdGo ids (childGo n 0 up) f p l
  | [], _, _ => rfl
  | h :: r, f, p => by rw [holdI, holdGo, fitH_eq, holdI_eq ids up n r false h]
/-- what both ask of a keeper alone -/
def aloneB (up : List Int) (ks : List KEEP) (n : Int) : Bool :=
  riseB (rdOf keep0 ks n).1 6 && (sortI (rdOf keep0 ks n).2.2 == (rdOf keep0 ks n).1) && holdGo (rdOf keep0 ks n).1 (childGo n 0 up) true (0, 0) (rdOf keep0 ks n).2.1 && (n == 0 || (rdOf keep0 ks n).1.all (fun id => hasI (rdOf keep0 ks (rdOf 0 up n)).1 id))
theorem keepI_iff (up : List Int) (ks : List KEEP) (n : Int) : keepI up ks n = true ↔ aloneB up ks n = true ∧ (n = 0 ∨ ∀ id ∈ (rdOf keep0 ks (rdOf 0 up n)).1, (hasI (rdOf keep0 ks n).1 id || hasH (rdOf keep0 ks (rdOf 0 up n)).2.1 id n) = true) := by
  unfold keepI aloneB
  rw [holdI_eq]
  cases hn : n == 0 with
  | true =>
    have := beq_iff_eq.mp hn
    simp [this]
  | false =>
    have h0 : n ≠ 0 := fun e => by rw [e] at hn; cases hn
    simp only [Bool.false_or, Bool.and_eq_true, List.all_eq_true]
    constructor
    · intro ⟨h1, h2, h3⟩; exact ⟨⟨h1, h2⟩, Or.inr h3⟩
    · intro ⟨⟨h1, h2⟩, h3⟩; exact ⟨h1, h2, h3.resolve_left h0⟩
theorem keeperB_iff (up : List Int) (ks : List KEEP) (n : Int) (h0 : 0 ≤ n) : keeperB up ks n = true ↔ aloneB up ks n = true ∧ ∀ id ∈ (rdOf keep0 ks n).1, ∀ ch ∈ childGo n 0 up, (hasI (rdOf keep0 ks ch).1 id || hasH (rdOf keep0 ks n).2.1 id ch) = true := by
  unfold keeperB aloneB
  cases hr : riseB (rdOf keep0 ks n).1 6 with
  | false => simp
  | true =>
    rw [same_iff _ _ 6 (-1) hr]
    have e : (rdOf keep0 ks n).1.all (fun id => !decide (n > 0) || hasI (rdOf keep0 ks (rdOf 0 up n)).1 id) = (n == 0 || (rdOf keep0 ks n).1.all (fun id => hasI (rdOf keep0 ks (rdOf 0 up n)).1 id)) := by
      by_cases hn : n = 0
      · subst hn; simp
      · have h1 : (n == 0) = false := Bool.eq_false_iff.mpr (fun e => hn (beq_iff_eq.mp e))
        rw [h1, Bool.false_or, decide_eq_true (show n > 0 by omega)]
        simp
    rw [e]
    simp only [Bool.true_and, Bool.and_eq_true, List.all_eq_true]
    constructor
    · intro ⟨⟨⟨h1, h2⟩, h3⟩, h4⟩; exact ⟨⟨⟨h1, h3⟩, h2⟩, h4⟩
    · intro ⟨⟨⟨h1, h3⟩, h2⟩, h4⟩; exact ⟨⟨⟨h1, h2⟩, h3⟩, h4⟩
theorem all_keep (up : List Int) (ks : List KEEP) (hl : ks.length = up.length) (ht : treeB up = true) : allFrom (keepI up ks) ks.length 0 = allFrom (keeperB up ks) ks.length 0 := by
  rw [Bool.eq_iff_iff, allFrom_iff, allFrom_iff]
  constructor
  · intro h n n0 n1
    refine (keeperB_iff up ks n n0).mpr ⟨((keepI_iff up ks n).mp (h n n0 n1)).1, fun id hid ch hch => ?_⟩
    have hm := (mem_childGo n up 0 ch (Int.le_refl _)).mp hch
    have hup : rdOf 0 up ch = n := by
      have := hm.2.2.2
      rw [show ch - 0 = ch by omega] at this
      exact this
    have := ((keepI_iff up ks ch).mp (h ch (by omega) (by omega))).2.resolve_left (by omega)
    rw [hup] at this
    exact this id hid
  · intro h n n0 n1
    refine (keepI_iff up ks n).mpr ⟨((keeperB_iff up ks n n0).mp (h n n0 n1)).1, ?_⟩
    by_cases hn : n = 0
    · exact Or.inl hn
    · refine Or.inr fun id hid => ?_
      have hp := tree_rd ht n (by omega) (by omega)
      refine ((keeperB_iff up ks (rdOf 0 up n) hp.1).mp (h _ hp.1 (by omega))).2 id hid n ((mem_childGo _ up 0 n (Int.le_refl _)).mpr ⟨by omega, by omega, by omega, ?_⟩)
      rw [show n - 0 = n by omega]
      rfl
theorem slip_eq (up : List Int) (ks : List KEEP) (z : SLIP) (hl : ks.length = up.length) (hr : ∀ n, 0 ≤ n → n < (ks.length : Int) → riseB (rdOf keep0 ks n).1 6 = true) : slipI up ks z = slipB up ks z := by
  unfold slipI slipB
  rw [show decide (z.2.1 ≤ (up.length : Int) - 1) = decide (z.2.1 < (up.length : Int)) from decide_eq_decide.mpr (by omega), show decide (z.2.2.1 ≤ (up.length : Int) - 1) = decide (z.2.2.1 < (up.length : Int)) from decide_eq_decide.mpr (by omega)]
  cases c1 : decide (0 ≤ z.2.1) && decide (z.2.1 < (up.length : Int)) with
  | false => rfl
  | true =>
    have c1' := Bool.and_eq_true_iff.mp c1
    have a1 := of_decide_eq_true c1'.1
    have a2 := of_decide_eq_true c1'.2
    cases c2 : decide (0 ≤ z.2.2.1) && decide (z.2.2.1 < (up.length : Int)) with
    | false => rfl
    | true =>
      simp only [Bool.true_and]
      cases c3 : hasI (rdOf keep0 ks z.2.1).1 z.2.2.2 with
      | false => simp
      | true =>
        have hx := (rise_parts _ 6 (-1) (hr z.2.1 a1 (by omega))).1 z.2.2.2 ((hasI_iff _ _).mp c3)
        rw [decide_eq_true (show 0 ≤ z.2.2.2 by omega), decide_eq_true (show z.2.2.2 < 6 by omega)]
        simp only [Bool.true_and]
        by_cases k1 : z.1 = 1
        · rw [k1]; simp
        · by_cases k2 : z.1 = 2
          · rw [k2]; simp
          · have e1 : (z.1 == 1) = false := Bool.eq_false_iff.mpr (fun e => k1 (beq_iff_eq.mp e))
            have e2 : (z.1 == 2) = false := Bool.eq_false_iff.mpr (fun e => k2 (beq_iff_eq.mp e))
            have e3 : (decide (1 ≤ z.1) && decide (z.1 ≤ 2)) = false := by simp; omega
            rw [e1, e2, e3]
            rfl
theorem goodI_eq (up : List Int) (ks : List KEEP) (sl : List SLIP) (lo : List Int) : goodI up ks sl lo = goodC up ks sl lo := by
  unfold goodI goodC
  cases ht : treeB up with
  | false => rfl
  | true =>
    have htl := tree_len ht
    by_cases hl : ks.length = up.length
    · rw [all_keep up ks hl ht]
      cases hk : allFrom (keeperB up ks) ks.length 0 with
      | false => simp
      | true =>
        have hr : ∀ n, 0 ≤ n → n < (ks.length : Int) → riseB (rdOf keep0 ks n).1 6 = true := fun n n0 n1 => by
          have := ((keeperB_iff up ks n n0).mp ((allFrom_iff _ _ _).mp hk n n0 (by omega))).1
          unfold aloneB at this
          simp only [Bool.and_eq_true] at this
          exact this.1.1.1
        have hs : sl.all (slipI up ks) = sl.all (slipB up ks) := by
          congr 1
          funext z
          exact slip_eq up ks z hl hr
        rw [hs, same_iff _ _ 6 (-1) (hr 0 (Int.le_refl _) (by omega)), Bool.true_and, Bool.true_and]
        cases sortI lo == (rdOf keep0 ks 0).1 <;> cases sl.all (slipB up ks) <;> rfl
    · rw [decide_eq_false hl]; simp
/-- The program's and the reference's agree. -/
theorem impl_goodC_eq (up : List Int) (ks : List KEEP) (sl : List SLIP) (lo : List Int) (hlo : lo.length ≤ 10000000) (hk : ∀ x ∈ ks, x.1.length ≤ 10000000 ∧ x.2.1.length ≤ 10000000 ∧ x.2.2.length ≤ 10000000) : impl_GoodCustody up ks sl lo = some (goodC up ks sl lo) := by
  rw [impl_goodI_eq up ks sl lo hlo hk, goodI_eq]
/-! ### lists made over, element by element -/
theorem put_take {α : Type} (r : List α) (i : Int) (v : α) (h0 : 0 ≤ i) (h1 : i < (r.length : Int)) : (setI r i v).take (i + 1).toNat = r.take i.toNat ++ [v] := by
  unfold setI
  have hi : i.toNat < r.length := by omega
  rw [show (i + 1).toNat = i.toNat + 1 by omega, List.take_succ_eq_append_getElem (by rw [List.length_set]; exact hi), List.take_set_of_le (Nat.le_refl _), List.getElem_set_self]
theorem to_loop {α ε : Type} {step : (ε → Option (List α)) → ε → Option (List α)} (d z : α) (l : List α) (mk : Int → List α → ε)
    (h1 : ∀ rec i r, 0 ≤ i → i < (l.length : Int) → r.length = l.length → rdOf d l i ∈ l → step rec (mk i r) = rec (mk (i + 1) (setI r i (rdOf d l i)))) (h2 : ∀ rec r, step rec (mk (l.length : Int) r) = some r) (k : Nat) (hk : l.length < k) :
    iter step k (mk 0 (List.replicate ((l.length : Int)).toNat z)) = some l := by
  refine (scan_run (step := step) (l.length : Int) (fun i (r : List α) => mk i r) (fun i r => some (r.take i.toNat ++ l.drop i.toNat)) (fun _ r => r.length = l.length) ?_ k 0 _ (Int.le_refl _) (by omega) (by simp) (by omega)).trans (by simp)
  intro rec i r h0 hle hJ ih
  by_cases hlt : i < (l.length : Int)
  · have hm : rdOf d l i ∈ l := by
      unfold rdOf
      have hh : i.toNat < l.length := by omega
      rw [List.getD_eq_getElem?_getD, List.getElem?_eq_getElem hh]
      exact List.getElem_mem hh
    have hs : (setI r i (rdOf d l i)).length = l.length := by unfold setI; rw [List.length_set]; exact hJ
    rw [h1 rec i r h0 hlt hJ hm, ih hlt _ hs, put_take _ _ _ h0 (by omega), dropI d l i h0 hlt, List.append_assoc]
    rfl
  · have : i = (l.length : Int) := by omega
    subst this
    rw [h2 rec r, dropE l _ (Int.le_refl _), List.append_nil, List.take_of_length_le (by omega)]
theorem toIntS_eq (l : List Int) (h : l.length ≤ 10000000) : laws_toIntS l = some l := by
  refine lim_eq (l.length + 1) fun k hk => ?_
  unfold laws_toIntS.g
  rw [grd_self, grd_dec (by omega), grd_dec (by omega)]
  refine to_loop (step := laws_toIntS.s0 k) 0 0 l (fun i r => (l, i, r)) ?_ ?_ k (by omega)
  · intro rec i r h0 h1 hr _
    unfold laws_toIntS.s0
    simp only []
    rw [bif_dec_t h1, grd_dec h0, grd_dec h1, grd_dec h0, grd_dec (by omega), w64_id (by omega) (by omega)]
  · intro rec r
    unfold laws_toIntS.s0
    simp only []
    rw [bif_dec_f (Int.lt_irrefl _)]
theorem toHoldS_eq (l : List (Int × Int)) (h : l.length ≤ 10000000) : laws_toHoldS l = some l := by
  refine lim_eq (l.length + 1) fun k hk => ?_
  unfold laws_toHoldS.g
  rw [grd_self, grd_dec (by omega), grd_dec (by omega)]
  refine to_loop (step := laws_toHoldS.s0 k) (0, 0) (0, 0) l (fun i r => (l, i, r)) ?_ ?_ k (by omega)
  · intro rec i r h0 h1 hr _
    unfold laws_toHoldS.s0 laws_toHold
    simp only []
    rw [bif_dec_t h1, grd_dec h0, grd_dec h1, Option.bind_some]
    change grd _ (grd _ _) = _
    rw [grd_dec h0, grd_dec (by omega), w64_id (by omega) (by omega)]
  · intro rec r
    unfold laws_toHoldS.s0
    simp only []
    rw [bif_dec_f (Int.lt_irrefl _)]
theorem toKeeperS_eq (l : List KEEP) (h : l.length ≤ 10000000) (hx : ∀ x ∈ l, x.1.length ≤ 10000000 ∧ x.2.1.length ≤ 10000000 ∧ x.2.2.length ≤ 10000000) : laws_toKeeperS l = some l := by
  refine lim_eq (l.length + 1) fun k hk => ?_
  unfold laws_toKeeperS.g
  rw [grd_self, grd_dec (by omega), grd_dec (by omega)]
  refine to_loop (step := laws_toKeeperS.s0 k) keep0 keep0 l (fun i r => (l, i, r)) ?_ ?_ k (by omega)
  · intro rec i r h0 h1 hr hm
    have := hx _ hm
    unfold laws_toKeeperS.s0
    simp only []
    rw [bif_dec_t h1, grd_dec h0, grd_dec h1]
    have e : laws_toKeeper (rdOf keep0 l i).1 (rdOf keep0 l i).2.1 (rdOf keep0 l i).2.2 = some (rdOf keep0 l i) := by
      unfold laws_toKeeper
      rw [toIntS_eq _ this.1, Option.bind_some, toHoldS_eq _ this.2.1, Option.bind_some, toIntS_eq _ this.2.2, Option.bind_some]
    change (laws_toKeeper (rdOf keep0 l i).1 (rdOf keep0 l i).2.1 (rdOf keep0 l i).2.2).bind _ = _
    rw [e, Option.bind_some]
    change grd _ (grd _ _) = _
    rw [grd_dec h0, grd_dec (by omega), w64_id (by omega) (by omega)]
  · intro rec r
    unfold laws_toKeeperS.s0
    simp only []
    rw [bif_dec_f (Int.lt_irrefl _)]
theorem toSlipS_eq (l : List SLIP) (h : l.length ≤ 10000000) : laws_toSlipS l = some l := by
  refine lim_eq (l.length + 1) fun k hk => ?_
  unfold laws_toSlipS.g
  rw [grd_self, grd_dec (by omega), grd_dec (by omega)]
  refine to_loop (step := laws_toSlipS.s0 k) ((0, 0, 0, 0) : SLIP) (0, 0, 0, 0) l (fun i r => (l, i, r)) ?_ ?_ k (by omega)
  · intro rec i r h0 h1 hr _
    unfold laws_toSlipS.s0 laws_toSlip
    simp only []
    rw [bif_dec_t h1, grd_dec h0, grd_dec h1, Option.bind_some]
    change grd _ (grd _ _) = _
    rw [grd_dec h0, grd_dec (by omega), w64_id (by omega) (by omega)]
  · intro rec r
    unfold laws_toSlipS.s0
    simp only []
    rw [bif_dec_f (Int.lt_irrefl _)]
theorem all_true {α : Type} (l : List α) : l.all (fun _ => true) = true := List.all_eq_true.mpr (fun _ _ => rfl)
theorem eqIntS_self (l : List Int) (h : l.length ≤ 10000000) : laws_eqIntS l l = some true := by
  refine lim_eq (l.length + 1) fun k hk => ?_
  unfold laws_eqIntS.g
  rw [bne_int, decide_eq_true rfl]
  refine (all_loop (step := laws_eqIntS.s0 k) 0 l (fun _ => true) (some true) (some false) (fun i => (l, l, i)) ?_ ?_ k (by omega)).trans (by rw [all_true]; rfl)
  · intro rec i h0 h1 _
    unfold laws_eqIntS.s0
    simp only [bif_dec_t h1, grd_dec h0, grd_dec h1, bne_self_eq_false, cond_false, cond_true]
    rw [w64_id (by omega) (by omega)]
  · intro rec
    unfold laws_eqIntS.s0
    simp only []
    rw [bif_dec_f (Int.lt_irrefl _)]
theorem eqHoldS_self (l : List (Int × Int)) (h : l.length ≤ 10000000) : laws_eqHoldS l l = some true := by
  refine lim_eq (l.length + 1) fun k hk => ?_
  unfold laws_eqHoldS.g
  rw [bne_int, decide_eq_true rfl]
  refine (all_loop (step := laws_eqHoldS.s0 k) (0, 0) l (fun _ => true) (some true) (some false) (fun i => (l, l, i)) ?_ ?_ k (by omega)).trans (by rw [all_true]; rfl)
  · intro rec i h0 h1 _
    unfold laws_eqHoldS.s0 laws_eqHold
    simp only [bif_dec_t h1, grd_dec h0, grd_dec h1, bne_self_eq_false, cond_false, cond_true, Option.bind_some, Bool.not_true]
    rw [w64_id (by omega) (by omega)]
  · intro rec
    unfold laws_eqHoldS.s0
    simp only []
    rw [bif_dec_f (Int.lt_irrefl _)]
theorem eqSlipS_self (l : List SLIP) (h : l.length ≤ 10000000) : laws_eqSlipS l l = some true := by
  refine lim_eq (l.length + 1) fun k hk => ?_
  unfold laws_eqSlipS.g
  rw [bne_int, decide_eq_true rfl]
  refine (all_loop (step := laws_eqSlipS.s0 k) ((0, 0, 0, 0) : SLIP) l (fun _ => true) (some true) (some false) (fun i => (l, l, i)) ?_ ?_ k (by omega)).trans (by rw [all_true]; rfl)
  · intro rec i h0 h1 _
    unfold laws_eqSlipS.s0 laws_eqSlip
    simp only [bif_dec_t h1, grd_dec h0, grd_dec h1, bne_self_eq_false, cond_false, cond_true, Option.bind_some, Bool.not_true]
    rw [w64_id (by omega) (by omega)]
  · intro rec
    unfold laws_eqSlipS.s0
    simp only []
    rw [bif_dec_f (Int.lt_irrefl _)]
theorem eqKeeperS_self (l : List KEEP) (h : l.length ≤ 10000000) (hx : ∀ x ∈ l, x.1.length ≤ 10000000 ∧ x.2.1.length ≤ 10000000 ∧ x.2.2.length ≤ 10000000) : laws_eqKeeperS l l = some true := by
  refine lim_eq (l.length + 1) fun k hk => ?_
  unfold laws_eqKeeperS.g
  rw [bne_int, decide_eq_true rfl]
  refine (all_loop (step := laws_eqKeeperS.s0 k) keep0 l (fun _ => true) (some true) (some false) (fun i => (l, l, i)) ?_ ?_ k (by omega)).trans (by rw [all_true]; rfl)
  · intro rec i h0 h1 hm
    have := hx _ hm
    have e : laws_eqKeeper (rdOf keep0 l i).1 (rdOf keep0 l i).2.1 (rdOf keep0 l i).2.2 (rdOf keep0 l i).1 (rdOf keep0 l i).2.1 (rdOf keep0 l i).2.2 = some true := by
      unfold laws_eqKeeper
      rw [eqIntS_self _ this.1, eqHoldS_self _ this.2.1, eqIntS_self _ this.2.2]
      rfl
    unfold laws_eqKeeperS.s0
    simp only []
    rw [bif_dec_t h1, grd_dec h0, grd_dec h1, grd_dec h0, grd_dec h1]
    change (laws_eqKeeper (rdOf keep0 l i).1 (rdOf keep0 l i).2.1 (rdOf keep0 l i).2.2 (rdOf keep0 l i).1 (rdOf keep0 l i).2.1 (rdOf keep0 l i).2.2).bind _ = _
    rw [e, w64_id (by omega) (by omega)]
    rfl
  · intro rec
    unfold laws_eqKeeperS.s0
    simp only []
    rw [bif_dec_f (Int.lt_irrefl _)]
def szN (m : Nat) (left : Int) : Int := bif decide (left - (m : Int) < 0) then -1 else left - m
theorem szN_ge {m : Nat} {left : Int} (h : ¬ szN m left < 0) : szN m left = left - m ∧ (m : Int) ≤ left := by
  unfold szN at *
  by_cases c : left - (m : Int) < 0
  · rw [bif_dec_t c] at h; omega
  · rw [bif_dec_f c]; exact ⟨rfl, by omega⟩
theorem szIntS_eq (l : List Int) (left : Int) (h0 : 0 ≤ left) (h1 : left ≤ 2000000) (hl : l.length ≤ 9223372036854775807) : laws_szIntS l left = some (szN l.length left) := by
  unfold laws_szIntS szN
  rw [w64_id (by omega) (by omega)]
  by_cases c : left - (l.length : Int) < 0
  · rw [bif_dec_t c, bif_dec_t c]
  · rw [bif_dec_f c, bif_dec_f c]
theorem szHoldS_eq (l : List (Int × Int)) (left : Int) (h0 : 0 ≤ left) (h1 : left ≤ 2000000) (hl : l.length ≤ 9223372036854775807) : laws_szHoldS l left = some (szN l.length left) := by
  unfold laws_szHoldS szN
  rw [w64_id (by omega) (by omega)]
  by_cases c : left - (l.length : Int) < 0
  · rw [bif_dec_t c, bif_dec_t c]
  · rw [bif_dec_f c, bif_dec_f c]
theorem szSlipS_eq (l : List SLIP) (left : Int) (h0 : 0 ≤ left) (h1 : left ≤ 2000000) (hl : l.length ≤ 9223372036854775807) : laws_szSlipS l left = some (szN l.length left) := by
  unfold laws_szSlipS szN
  rw [w64_id (by omega) (by omega)]
  by_cases c : left - (l.length : Int) < 0
  · rw [bif_dec_t c, bif_dec_t c]
  · rw [bif_dec_f c, bif_dec_f c]
def big (x : KEEP) : Prop := x.1.length ≤ 9223372036854775807 ∧ x.2.1.length ≤ 9223372036854775807 ∧ x.2.2.length ≤ 9223372036854775807
theorem szKeeper_ok (x : KEEP) (left : Int) (h0 : 0 ≤ left) (h1 : left ≤ 2000000) (hx : big x) : ∃ c, laws_szKeeper x.1 x.2.1 x.2.2 left = some c ∧ (¬ c < 0 → c ≤ left ∧ (x.1.length : Int) ≤ left ∧ (x.2.1.length : Int) ≤ left ∧ (x.2.2.length : Int) ≤ left) := by
  unfold laws_szKeeper
  rw [szIntS_eq _ _ h0 h1 hx.1, Option.bind_some]
  by_cases c1 : szN x.1.length left < 0
  · rw [bif_dec_t c1]; exact ⟨-1, rfl, fun h => absurd (by decide) h⟩
  · have e1 := szN_ge c1
    rw [bif_dec_f c1, szHoldS_eq _ _ (by omega) (by omega) hx.2.1, Option.bind_some]
    by_cases c2 : szN x.2.1.length (szN x.1.length left) < 0
    · rw [bif_dec_t c2]; exact ⟨-1, rfl, fun h => absurd (by decide) h⟩
    · have e2 := szN_ge c2
      rw [bif_dec_f c2, szIntS_eq _ _ (by omega) (by omega) hx.2.2, Option.bind_some]
      by_cases c3 : szN x.2.2.length (szN x.2.1.length (szN x.1.length left)) < 0
      · rw [bif_dec_t c3]; exact ⟨-1, rfl, fun h => absurd (by decide) h⟩
      · have e3 := szN_ge c3
        rw [bif_dec_f c3]
        exact ⟨_, rfl, fun _ => by omega⟩
theorem szKs_run : ∀ (r : List KEEP) (l : List KEEP) (i : Nat) (left : Int), l.drop i = r → l.length ≤ 9223372036854775807 → 0 ≤ left → left ≤ 2000000 → (∀ x ∈ r, big x) →
    ∃ c, (∀ K k, r.length < k → iter (laws_szKeeperS.s0 K) k (l, left, (i : Int)) = some c) ∧ (¬ c < 0 → c ≤ left ∧ ∀ x ∈ r, (x.1.length : Int) ≤ left ∧ (x.2.1.length : Int) ≤ left ∧ (x.2.2.length : Int) ≤ left)
  | [], l, i, left, hd, hl, h0, h1, hx => by
    have hi : l.length ≤ i := by simpa using hd
    refine ⟨left, fun K k hk => ?_, fun _ => ⟨Int.le_refl _, fun x h => absurd h (List.not_mem_nil)⟩⟩
    obtain ⟨j, rfl⟩ : ∃ j, k = j + 1 := ⟨k - 1, by simp at hk; omega⟩
    rw [iter]
    unfold laws_szKeeperS.s0
    simp only []
    rw [bif_dec_f (by omega)]
  | x :: r, l, i, left, hd, hl, h0, h1, hx => by
    have hi : i < l.length := by
      have := congrArg List.length hd
      rw [List.length_drop] at this
      simp at this
      omega
    have hrd : rdOf keep0 l (i : Int) = x := by
      unfold rdOf
      rw [List.getD_eq_getElem?_getD, show (i : Int).toNat = i by omega, List.getElem?_eq_getElem hi]
      have := List.drop_eq_getElem_cons hi
      rw [hd] at this
      injection this with h _
      exact h.symm
    have hd' : l.drop (i + 1) = r := by
      have := List.drop_eq_getElem_cons hi
      rw [hd] at this
      injection this with _ h
      exact h.symm
    obtain ⟨c, e, hc⟩ := szKeeper_ok x left h0 h1 (hx x (List.mem_cons_self ..))
    have step : ∀ K rec, laws_szKeeperS.s0 K rec (l, left, (i : Int)) = bif decide (c < 0) then some (-1) else rec (l, c, ((i + 1 : Nat) : Int)) := by
      intro K rec
      unfold laws_szKeeperS.s0
      simp only []
      rw [bif_dec_t (by omega), grd_dec (by omega), grd_dec (by omega), w64_id (by omega) (by omega)]
      change (laws_szKeeper (rdOf keep0 l (i : Int)).1 (rdOf keep0 l (i : Int)).2.1 (rdOf keep0 l (i : Int)).2.2 left).bind _ = _
      rw [hrd, e, Option.bind_some]
      rfl
    by_cases cc : c < 0
    · refine ⟨-1, fun K k hk => ?_, fun h => absurd (by decide) h⟩
      obtain ⟨j, rfl⟩ : ∃ j, k = j + 1 := ⟨k - 1, by simp at hk; omega⟩
      rw [iter, step, bif_dec_t cc]
    · have hc := hc cc
      obtain ⟨c', e', hc'⟩ := szKs_run r l (i + 1) c hd' hl (by omega) (by omega) (fun y hy => hx y (List.mem_cons_of_mem _ hy))
      refine ⟨c', fun K k hk => ?_, fun h => ?_⟩
      · obtain ⟨j, rfl⟩ : ∃ j, k = j + 1 := ⟨k - 1, by simp at hk; omega⟩
        rw [iter, step, bif_dec_f cc]
        exact e' K j (by simp at hk; omega)
      · have := hc' h
        refine ⟨by omega, fun y hy => ?_⟩
        rcases List.mem_cons.mp hy with hy | hy
        · subst hy; omega
        · have := this.2 y hy; omega
theorem szKeeperS_ok (l : List KEEP) (left : Int) (h0 : 0 ≤ left) (h1 : left ≤ 2000000) (hl : l.length ≤ 9223372036854775807) (hx : ∀ x ∈ l, big x) : ∃ c, laws_szKeeperS l left = some c ∧ (¬ c < 0 → c ≤ left ∧ (l.length : Int) ≤ left ∧ ∀ x ∈ l, (x.1.length : Int) ≤ left ∧ (x.2.1.length : Int) ≤ left ∧ (x.2.2.length : Int) ≤ left) := by
  by_cases c1 : left - (l.length : Int) < 0
  · refine ⟨-1, lim_eq 0 fun k _ => ?_, fun h => absurd (by decide) h⟩
    unfold laws_szKeeperS.g
    rw [w64_id (by omega) (by omega), bif_dec_t c1]
  · obtain ⟨c, e, hc⟩ := szKs_run l l 0 (left - l.length) rfl hl (by omega) (by omega) hx
    refine ⟨c, lim_eq (l.length + 1) fun k hk => ?_, fun h => ?_⟩
    · unfold laws_szKeeperS.g
      rw [w64_id (by omega) (by omega), bif_dec_f c1]
      exact e k k (by omega)
    · have := hc h
      exact ⟨by omega, by omega, fun x hx' => by have := this.2 x hx'; omega⟩
theorem szCustody_ok (up : List Int) (ks : List KEEP) (sl : List SLIP) (lo : List Int) (hu : up.length ≤ 9223372036854775807) (hk : ks.length ≤ 9223372036854775807) (hx : ∀ x ∈ ks, big x) (hs : sl.length ≤ 9223372036854775807) (hlo : lo.length ≤ 9223372036854775807) :
    ∃ c, laws_szCustody up ks sl lo 1048576 = some c ∧ (¬ c < 0 → up.length ≤ 1048576 ∧ ks.length ≤ 1048576 ∧ (∀ x ∈ ks, x.1.length ≤ 10000000 ∧ x.2.1.length ≤ 10000000 ∧ x.2.2.length ≤ 10000000) ∧ sl.length ≤ 1048576 ∧ lo.length ≤ 1048576) := by
  unfold laws_szCustody
  rw [szIntS_eq _ _ (by decide) (by decide) hu, Option.bind_some]
  by_cases c1 : szN up.length 1048576 < 0
  · rw [bif_dec_t c1]; exact ⟨-1, rfl, fun h => absurd (by decide) h⟩
  · have e1 := szN_ge c1
    obtain ⟨d, ed, hd⟩ := szKeeperS_ok ks (szN up.length 1048576) (by omega) (by omega) hk hx
    rw [bif_dec_f c1, ed, Option.bind_some]
    by_cases c2 : d < 0
    · rw [bif_dec_t c2]; exact ⟨-1, rfl, fun h => absurd (by decide) h⟩
    · have e2 := hd c2
      rw [bif_dec_f c2, szSlipS_eq _ _ (by omega) (by omega) hs, Option.bind_some]
      by_cases c3 : szN sl.length d < 0
      · rw [bif_dec_t c3]; exact ⟨-1, rfl, fun h => absurd (by decide) h⟩
      · have e3 := szN_ge c3
        rw [bif_dec_f c3, szIntS_eq _ _ (by omega) (by omega) hlo, Option.bind_some]
        by_cases c4 : szN lo.length (szN sl.length d) < 0
        · rw [bif_dec_t c4]; exact ⟨-1, rfl, fun h => absurd (by decide) h⟩
        · have e4 := szN_ge c4
          rw [bif_dec_f c4]
          refine ⟨_, rfl, fun _ => ⟨by omega, by omega, fun x hx' => ?_, by omega, by omega⟩⟩
          have := e2.2.2 x hx'
          omega
theorem pure_FnExactGoodCustody (up : List Int) (ks : List KEEP) (sl : List SLIP) (lo : List Int) (hu : up.length ≤ 9223372036854775807) (hk : ks.length ≤ 9223372036854775807) (hx : ∀ x ∈ ks, big x) (hs : sl.length ≤ 9223372036854775807) (hlo : lo.length ≤ 9223372036854775807) : laws_FnExactGoodCustody up ks sl lo = some true := by
  unfold laws_FnExactGoodCustody
  obtain ⟨c, e, hc⟩ := szCustody_ok up ks sl lo hu hk hx hs hlo
  rw [e, Option.bind_some]
  by_cases c0 : c < 0
  · rw [bif_dec_t c0]
  · have hb := hc c0
    have et : laws_toCustody up ks sl lo = some (up, ks, sl, lo) := by
      unfold laws_toCustody
      rw [toIntS_eq _ (by omega), Option.bind_some, toKeeperS_eq _ (by omega) hb.2.2.1, Option.bind_some, toSlipS_eq _ (by omega), Option.bind_some, toIntS_eq _ (by omega)]
      rfl
    have eq1 : laws_eqCustody up ks sl lo up ks sl lo = some true := by
      unfold laws_eqCustody
      rw [eqIntS_self _ (by omega), eqKeeperS_self _ (by omega) hb.2.2.1, eqSlipS_self _ (by omega), eqIntS_self _ (by omega)]
      rfl
    rw [bif_dec_f c0]
    simp only [et, Option.bind_some, spec_goodC_eq up ks sl lo (by omega) (by omega) (by omega) hb.2.2.1, impl_goodC_eq up ks sl lo (by omega) hb.2.2.1, eq1, beq_self_eq_true, Bool.not_true, cond_false]
def safeGo (up : List Int) (ks : List KEEP) (id : Int) : Nat → Int → Bool × Bool
  | 0, _ => (false, true)
  | m + 1, n => bif decide (n > 0) then (bif hasH (rdOf keep0 ks (rdOf 0 up n)).2.1 id n then (true, true) else safeGo up ks id m (rdOf 0 up n)) else (false, true)
theorem spec_safe_run (up : List Int) (ks : List KEEP) (sl : List SLIP) (lo : List Int) (id : Int) (ht : treeB up = true) (hl : ks.length = up.length) (hk : ∀ m : Int, (rdOf keep0 ks m).2.1.length ≤ 10000000) : ∀ (m k K : Nat) (n : Int), n.toNat ≤ m → m < k → 0 ≤ n → n < (up.length : Int) →
    iter (spec_SafeFor.s0 K) k (id, n, up, ks, sl, lo) = some (safeGo up ks id m n) := by
  intro m
  induction m with
  | zero =>
    intro k K n h1 h2 h3 h4
    obtain ⟨j, rfl⟩ : ∃ j, k = j + 1 := ⟨k - 1, by omega⟩
    rw [iter]
    unfold spec_SafeFor.s0
    simp only []
    rw [bif_dec_f (by omega)]
    rfl
  | succ m ih =>
    intro k K n h1 h2 h3 h4
    obtain ⟨j, rfl⟩ : ∃ j, k = j + 1 := ⟨k - 1, by omega⟩
    rw [iter]
    unfold spec_SafeFor.s0
    simp only []
    rw [safeGo]
    by_cases hn : n > 0
    · have hp := tree_rd ht n hn h4
      rw [bif_dec_t hn, bif_dec_t hn, grd_dec h3, grd_dec h4, grd_dec hp.1, grd_dec (show rdOf 0 up n < (ks.length : Int) by omega)]
      change (spec_l16Has (rdOf keep0 ks (rdOf 0 up n)).2.1 id n).bind _ = _
      rw [spec_hasH_eq _ _ _ (by have := hk (rdOf 0 up n); omega), Option.bind_some]
      cases hasH (rdOf keep0 ks (rdOf 0 up n)).2.1 id n with
      | true => rfl
      | false =>
        rw [cond_false, cond_false, grd_dec h3, grd_dec h4]
        exact ih j K (rdOf 0 up n) (by omega) (by omega) hp.1 (by omega)
    · rw [bif_dec_f hn, bif_dec_f hn]
theorem impl_safe_run (up : List Int) (ks : List KEEP) (sl : List SLIP) (lo : List Int) (id : Int) (ht : treeB up = true) (hl : ks.length = up.length) (hk : ∀ m : Int, (rdOf keep0 ks m).2.1.length ≤ 10000000) : ∀ (m k K : Nat) (n : Int), n.toNat ≤ m → m < k → 0 ≤ n → n < (up.length : Int) →
    iter (impl_SafeFor.s0 K) k (id, n, up, ks, sl, lo) = some (safeGo up ks id m n) := by
  intro m
  induction m with
  | zero =>
    intro k K n h1 h2 h3 h4
    obtain ⟨j, rfl⟩ : ∃ j, k = j + 1 := ⟨k - 1, by omega⟩
    rw [iter]
    unfold impl_SafeFor.s0
    simp only []
    rw [bif_dec_f (by omega)]
    rfl
  | succ m ih =>
    intro k K n h1 h2 h3 h4
    obtain ⟨j, rfl⟩ : ∃ j, k = j + 1 := ⟨k - 1, by omega⟩
    rw [iter]
    unfold impl_SafeFor.s0
    simp only []
    rw [safeGo]
    by_cases hn : n > 0
    · have hp := tree_rd ht n hn h4
      rw [bif_dec_t hn, bif_dec_t hn, grd_dec h3, grd_dec h4, grd_dec hp.1, grd_dec (show rdOf 0 up n < (ks.length : Int) by omega)]
      change (slices_Contains_Hold (rdOf keep0 ks (rdOf 0 up n)).2.1 id n).bind _ = _
      rw [contains_Hold_eq _ _ _ (by have := hk (rdOf 0 up n); omega), Option.bind_some]
      cases hasH (rdOf keep0 ks (rdOf 0 up n)).2.1 id n with
      | true => rfl
      | false =>
        rw [cond_false, cond_false, grd_dec h3, grd_dec h4]
        exact ih j K (rdOf 0 up n) (by omega) (by omega) hp.1 (by omega)
    · rw [bif_dec_f hn, bif_dec_f hn]
def safeN (up : List Int) (ks : List KEEP) (sl : List SLIP) (lo : List Int) (n id : Int) : Bool × Bool :=
  bif goodC up ks sl lo && (decide (0 ≤ n) && decide (n < (up.length : Int))) && (decide (0 ≤ id) && decide (id < 6)) then (bif hasI (rdOf keep0 ks n).2.2 id then (true, true) else safeGo up ks id 8 n) else (false, false)
theorem good_tree {up : List Int} {ks : List KEEP} {sl : List SLIP} {lo : List Int} (h : goodC up ks sl lo = true) : treeB up = true ∧ ks.length = up.length := by
  unfold goodC at h
  simp only [Bool.and_eq_true, decide_eq_true_eq] at h
  exact ⟨h.1.1.1, h.1.1.2⟩
theorem keeps_in {ks : List KEEP} (hk : ∀ x ∈ ks, x.1.length ≤ 10000000 ∧ x.2.1.length ≤ 10000000 ∧ x.2.2.length ≤ 10000000) (m : Int) : (rdOf keep0 ks m).2.1.length ≤ 10000000 ∧ (rdOf keep0 ks m).2.2.length ≤ 10000000 := by
  unfold rdOf
  rw [List.getD_eq_getElem?_getD]
  cases hm : ks[m.toNat]? with
  | none => exact ⟨Nat.zero_le _, Nat.zero_le _⟩
  | some z => exact (hk z (List.mem_of_getElem? hm)).2
theorem spec_safe_eq (up : List Int) (ks : List KEEP) (sl : List SLIP) (lo : List Int) (n id : Int) (hu : up.length ≤ 1048576) (hs : sl.length ≤ 1048576) (hlo : lo.length ≤ 1048576)
    (hk : ∀ x ∈ ks, x.1.length ≤ 10000000 ∧ x.2.1.length ≤ 10000000 ∧ x.2.2.length ≤ 10000000) : spec_SafeFor up ks sl lo n id = some (safeN up ks sl lo n id) := by
  refine lim_eq 10 fun k hkk => ?_
  unfold spec_SafeFor.g safeN
  rw [spec_goodC_eq up ks sl lo (by omega) (by omega) (by omega) hk, Option.bind_some]
  cases hg : goodC up ks sl lo with
  | false => rfl
  | true =>
    have ht := good_tree hg
    have htl := tree_len ht.1
    simp only [Bool.not_true, cond_false, Bool.true_and]
    by_cases c1 : 0 ≤ n
    · rw [bif_dec_f (show ¬ n < 0 by omega), decide_eq_true c1]
      by_cases c2 : n < (up.length : Int)
      · have hid : spec_l16Id id = some (decide (0 ≤ id) && decide (id < 6)) := by
          unfold spec_l16Id
          by_cases h : id ≥ 0
          · rw [bif_dec_t h, decide_eq_true (show 0 ≤ id from h)]; rfl
          · rw [bif_dec_f h, decide_eq_false (show ¬ 0 ≤ id from h)]; rfl
        rw [bif_dec_f (show ¬ n ≥ (up.length : Int) by omega), decide_eq_true c2, hid, Option.bind_some]
        cases decide (0 ≤ id) && decide (id < 6) with
        | false => rfl
        | true =>
          simp only [Bool.not_true, cond_false, Bool.and_self, cond_true]
          rw [grd_dec (show n < (ks.length : Int) by omega)]
          change (spec_l1Has (rdOf keep0 ks n).2.2 id).bind _ = _
          rw [spec_has_eq _ _ (by have := (keeps_in hk n).2; omega), Option.bind_some]
          cases hasI (rdOf keep0 ks n).2.2 id with
          | true => rfl
          | false =>
            rw [cond_false, cond_false]
            exact spec_safe_run up ks sl lo id ht.1 ht.2 (fun m => (keeps_in hk m).1) 8 k k n (by omega) (by omega) c1 c2
      · rw [bif_dec_t (show n ≥ (up.length : Int) by omega), decide_eq_false c2]; rfl
    · rw [bif_dec_t (show n < 0 by omega), decide_eq_false c1]; rfl
theorem impl_safe_eq (up : List Int) (ks : List KEEP) (sl : List SLIP) (lo : List Int) (n id : Int) (hu : up.length ≤ 1048576) (hlo : lo.length ≤ 1048576)
    (hk : ∀ x ∈ ks, x.1.length ≤ 10000000 ∧ x.2.1.length ≤ 10000000 ∧ x.2.2.length ≤ 10000000) : impl_SafeFor up ks sl lo n id = some (safeN up ks sl lo n id) := by
  refine lim_eq 10 fun k hkk => ?_
  unfold impl_SafeFor.g safeN impl_isId
  rw [impl_goodC_eq up ks sl lo (by omega) hk, Option.bind_some]
  cases hg : goodC up ks sl lo with
  | false => rfl
  | true =>
    have ht := good_tree hg
    have htl := tree_len ht.1
    simp only [Bool.not_true, cond_false, Bool.true_and]
    rw [within_eq, Option.bind_some, w64_id (n := (up.length : Int) - 1) (by omega) (by omega), show decide (n ≤ (up.length : Int) - 1) = decide (n < (up.length : Int)) from decide_eq_decide.mpr (by omega)]
    cases c : decide (0 ≤ n) && decide (n < (up.length : Int)) with
    | false => rfl
    | true =>
      have c' := Bool.and_eq_true_iff.mp c
      have c1 := of_decide_eq_true c'.1
      have c2 := of_decide_eq_true c'.2
      rw [within_eq, Option.bind_some, Option.bind_some, show decide (id ≤ 5) = decide (id < 6) from decide_eq_decide.mpr (by omega)]
      cases decide (0 ≤ id) && decide (id < 6) with
      | false => rfl
      | true =>
        simp only [Bool.not_true, cond_false, Bool.and_self, cond_true]
        rw [grd_dec c1, grd_dec (show n < (ks.length : Int) by omega)]
        change (slices_Contains_int (rdOf keep0 ks n).2.2 id).bind _ = _
        rw [contains_int_eq _ _ (by have := (keeps_in hk n).2; omega), Option.bind_some]
        cases hasI (rdOf keep0 ks n).2.2 id with
        | true => rfl
        | false =>
          rw [cond_false, cond_false]
          exact impl_safe_run up ks sl lo id ht.1 ht.2 (fun m => (keeps_in hk m).1) 8 k k n (by omega) (by omega) c1 c2
theorem pure_FnExactSafeFor (up : List Int) (ks : List KEEP) (sl : List SLIP) (lo : List Int) (n id : Int) (hu : up.length ≤ 9223372036854775807) (hk : ks.length ≤ 9223372036854775807) (hx : ∀ x ∈ ks, big x) (hs : sl.length ≤ 9223372036854775807) (hlo : lo.length ≤ 9223372036854775807) : laws_FnExactSafeFor up ks sl lo n id = some true := by
  unfold laws_FnExactSafeFor
  obtain ⟨c, e, hc⟩ := szCustody_ok up ks sl lo hu hk hx hs hlo
  rw [e, Option.bind_some]
  by_cases c0 : c < 0
  · rw [bif_dec_t c0]
  · have hb := hc c0
    have et : laws_toCustody up ks sl lo = some (up, ks, sl, lo) := by
      unfold laws_toCustody
      rw [toIntS_eq _ (by omega), Option.bind_some, toKeeperS_eq _ (by omega) hb.2.2.1, Option.bind_some, toSlipS_eq _ (by omega), Option.bind_some, toIntS_eq _ (by omega)]
      rfl
    have eq1 : laws_eqCustody up ks sl lo up ks sl lo = some true := by
      unfold laws_eqCustody
      rw [eqIntS_self _ (by omega), eqKeeperS_self _ (by omega) hb.2.2.1, eqSlipS_self _ (by omega), eqIntS_self _ (by omega)]
      rfl
    rw [bif_dec_f c0]
    simp only [et, Option.bind_some, spec_safe_eq up ks sl lo n id hb.1 hb.2.2.2.1 hb.2.2.2.2 hb.2.2.1, impl_safe_eq up ks sl lo n id hb.1 hb.2.2.2.2 hb.2.2.1, eq1, beq_self_eq_true, Bool.not_true, cond_false]
theorem cus_arg {up lo : List Int} {ks : List KEEP} {sl : List SLIP} (h : okTy (.pair (.slice 3 (.int .i64)) (.pair (.slice 101 (.pair (.slice 3 (.int .i64)) (.pair (.slice 133 (.pair (.int .i64) (.int .i64))) (.slice 3 (.int .i64))))) (.pair (.slice 106 (.pair (.int .i64) (.pair (.int .i64) (.pair (.int .i64) (.int .i64))))) (.slice 3 (.int .i64))))) (up, ks, sl, lo)) :
    up.length ≤ 9223372036854775807 ∧ ks.length ≤ 9223372036854775807 ∧ (∀ x ∈ ks, big x) ∧ sl.length ≤ 9223372036854775807 ∧ lo.length ≤ 9223372036854775807 := by
  have h1 : up.length ≤ maxLen := h.1.1
  have h2 : ks.length ≤ maxLen := h.2.1.1
  have h3 : sl.length ≤ maxLen := h.2.2.1.1
  have h4 : lo.length ≤ maxLen := h.2.2.2.1
  have h5 : ∀ x ∈ ks, big x := fun x hx => by
    have h6 := h.2.1.2 x hx
    have h7 : x.1.length ≤ maxLen := h6.1.1
    have h8 : x.2.1.length ≤ maxLen := h6.2.1.1
    have h9 : x.2.2.length ≤ maxLen := h6.2.2.1
    unfold maxLen at h7 h8 h9
    exact ⟨by omega, by omega, by omega⟩
  unfold maxLen at h1 h2 h3 h4
  exact ⟨by omega, by omega, h5, by omega, by omega⟩
theorem Pure.FnExactSafeFor (a0_0 : List Int) (a0_1 : List (List Int × List (Int × Int) × List Int)) (a0_2 : List (Int × Int × Int × Int)) (a0_3 : List Int) (a1 : Int) (a2 : Int) (ok0 : okTy (.pair (.slice 3 (.int .i64)) (.pair (.slice 101 (.pair (.slice 3 (.int .i64)) (.pair (.slice 133 (.pair (.int .i64) (.int .i64))) (.slice 3 (.int .i64))))) (.pair (.slice 106 (.pair (.int .i64) (.pair (.int .i64) (.pair (.int .i64) (.int .i64))))) (.slice 3 (.int .i64))))) (a0_0, a0_1, a0_2, a0_3)) (ok1 : okTy (.int .i64) a1) (ok2 : okTy (.int .i64) a2) : laws_FnExactSafeFor a0_0 a0_1 a0_2 a0_3 a1 a2 = some true := by
  have h := cus_arg ok0
  exact pure_FnExactSafeFor a0_0 a0_1 a0_2 a0_3 a1 a2 h.1 h.2.1 h.2.2.1 h.2.2.2.1 h.2.2.2.2
end Go.Eng
