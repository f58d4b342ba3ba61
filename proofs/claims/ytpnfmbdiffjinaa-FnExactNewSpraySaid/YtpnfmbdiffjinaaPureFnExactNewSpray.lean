/- The program's NewSpray returns what the reference's returns, for all whole numbers of 64 bits, and its list is new memory. -/
import Derived.Test.YtpnfmbdiffjinaaPFnExactNewSprayx2
set_option linter.unusedVariables false
set_option linter.unusedSimpArgs false
namespace Go.Proofs.Ytpnfmbdiffjinaa.Pure
open Go.RowKit Go.Proofs.Ytpnfmbdiffjinaa.PFnExactNewSpray Go.Proofs.YtpnfmbdiffjinaaW.PrintWords Go.Proofs.YtpnfmbdiffjinaaW.PrintLast Go.Proofs.YtpnfmbdiffjinaaW.PrintMore

theorem wrap_in {x : Int} (h0 : -9223372036854775808 ≤ x) (h1 : x ≤ 9223372036854775807) : wrap64 x = x := by
  unfold wrap64
  omega
theorem wrap_succ {i n : Nat} (h : i < n) (hn : n ≤ 9223372036854775807) : wrap64 ((i : Int) + 1) = ((i + 1 : Nat) : Int) := by
  rw [wrap_in (by omega) (by omega)]
  omega

theorem in_eq (a b c : Int) : spec_l1In.f a b c = some (decide (b ≤ a ∧ a ≤ c)) := by
  unfold spec_l1In.f
  by_cases h : b ≤ a <;> simp [h]
theorem within_eq (a b c : Int) : impl_within.f a b c = some (decide (b ≤ a ∧ a ≤ c)) := by
  unfold impl_within.f
  by_cases h : b ≤ a <;> simp [h]

theorem eqIntS_l0 (a : List Int) (hn : a.length ≤ 9223372036854775807) (d : Nat) : ∀ (k i : Nat), a.length - i = d → d < k → laws_eqIntS.l0 k a a (i : Int) = some true := by
  induction d with
  | zero =>
    intro k i hd hk
    obtain ⟨k, rfl⟩ : ∃ m, k = m + 1 := ⟨k - 1, by omega⟩
    simp only [laws_eqIntS.l0]
    rw [if_neg (by omega)]
  | succ d ih =>
    intro k i hd hk
    obtain ⟨k, rfl⟩ : ∃ m, k = m + 1 := ⟨k - 1, by omega⟩
    simp only [laws_eqIntS.l0]
    rw [if_pos (by omega), if_pos (by omega), if_pos (by omega), if_pos trivial, wrap_succ (n := a.length) (by omega) hn]
    exact ih k (i + 1) (by omega) (by omega)
theorem eqIntS_same (a : List Int) (hn : a.length ≤ 9223372036854775807) (k : Nat) (hk : a.length < k) : laws_eqIntS.f k a a = some true := by
  unfold laws_eqIntS.f
  rw [if_pos rfl]
  exact eqIntS_l0 a hn a.length k 0 (by omega) hk

theorem markIntS_l0 (d : Nat) : ∀ (k i : Nat) (x : List Int) (m : Int), x.length ≤ 9223372036854775807 → x.length - i = d → i ≤ x.length → d < k → 0 ≤ m → m + d ≤ 9223372036854775807 →
    laws_markIntS.l0 k x m (i : Int) = some (m + d, x.take i ++ (List.range d).map (fun j : Nat => m + j)) := by
  induction d with
  | zero =>
    intro k i x m hn hd hi hk h0 h1
    obtain ⟨k, rfl⟩ : ∃ m, k = m + 1 := ⟨k - 1, by omega⟩
    simp only [laws_markIntS.l0]
    rw [if_neg (by omega), List.take_of_length_le (by omega)]
    simp
  | succ d ih =>
    intro k i x m hn hd hi hk h0 h1
    obtain ⟨k, rfl⟩ : ∃ m, k = m + 1 := ⟨k - 1, by omega⟩
    simp only [laws_markIntS.l0]
    rw [if_pos (by omega), if_pos (by omega), wrap_succ (n := x.length) (by omega) hn, wrap_in (by omega) (by omega),
      ih k (i + 1) (x.set (i : Int).toNat m) (m + 1) (by simpa using hn) (by rw [List.length_set]; omega) (by rw [List.length_set]; omega) (by omega) (by omega) (by omega)]
    have hi' : i < x.length := by omega
    have e1 : (x.set i m).take (i + 1) = x.take i ++ [m] := by
      rw [List.take_add_one, List.take_set_of_le (Nat.le_refl i), List.getElem?_set_self hi']
      rfl
    rw [show (i : Int).toNat = i from rfl, e1, List.range_succ_eq_map, List.map_cons, List.map_map]
    simp only [List.append_assoc, List.cons_append, List.nil_append]
    congr 1
    refine Prod.ext (by simp; omega) ?_
    simp only [Function.comp_def]
    congr 1
    congr 1
    · simp
    · exact List.map_congr_left fun j _ => by simp; omega
theorem markIntS_is (x : List Int) (m : Int) (k : Nat) (hn : x.length ≤ 1000000000000) (hk : x.length < k) (h0 : 0 ≤ m) (h1 : m ≤ 1000000000000000) :
    laws_markIntS.f k x m = some (m + x.length, (List.range x.length).map (fun j : Nat => m + j)) := by
  unfold laws_markIntS.f
  have := markIntS_l0 x.length k 0 x m (by omega) (by omega) (by omega) hk h0 (by omega)
  simpa using this

theorem heldIntS_l0 (d : Nat) : ∀ (k i : Nat) (x : List Int) (m : Int), x.length ≤ 9223372036854775807 → x.length - i = d → i ≤ x.length → d < k → 0 ≤ m → m + d ≤ 9223372036854775807 →
    (∀ j : Nat, j < d → x.getD (i + j) 0 = m + j) → laws_heldIntS.l0 k x m (i : Int) = some (m + d) := by
  induction d with
  | zero =>
    intro k i x m hn hd hi hk h0 h1 hx
    obtain ⟨k, rfl⟩ : ∃ m, k = m + 1 := ⟨k - 1, by omega⟩
    simp only [laws_heldIntS.l0]
    rw [if_neg (by omega)]
    simp
  | succ d ih =>
    intro k i x m hn hd hi hk h0 h1 hx
    obtain ⟨k, rfl⟩ : ∃ m, k = m + 1 := ⟨k - 1, by omega⟩
    simp only [laws_heldIntS.l0]
    have e := hx 0 (by omega)
    rw [if_pos (by omega), if_pos (by omega), if_pos (by unfold rd; simpa using e), wrap_succ (n := x.length) (by omega) hn, wrap_in (by omega) (by omega),
      ih k (i + 1) x (m + 1) hn (by omega) (by omega) (by omega) (by omega) (by omega) (fun j hj => by have := hx (j + 1) (by omega); rw [show i + 1 + j = i + (j + 1) by omega, this]; omega)]
    congr 1
    omega
theorem heldIntS_is (n : Nat) (m : Int) (k : Nat) (hn : n ≤ 1000000000000) (hk : n < k) (h0 : 0 ≤ m) (h1 : m ≤ 1000000000000000) :
    laws_heldIntS.f k ((List.range n).map (fun j : Nat => m + j)) m = some (m + n) := by
  unfold laws_heldIntS.f
  have := heldIntS_l0 n k 0 ((List.range n).map (fun j : Nat => m + j)) m (by simp; omega) (by simp) (by simp) hk h0 (by omega) (fun j hj => by
    simp [List.getD_eq_getElem?_getD, List.getElem?_range hj])
  simpa using this

theorem newSpray_eq (a b c d : Int) (ha : (Lit.int .i64 a).wf = true) : impl_NewSpray.f a b c d = spec_NewSpray.f a b c d := by
  unfold impl_NewSpray.f spec_NewSpray.f impl_isWide.f
  simp only [within_eq, in_eq, Option.bind_some]
  by_cases h : 2 ≤ a ∧ a ≤ 8
  · have e : wrap64 (a - 1) = a - 1 := wrap_in (by omega) (by omega)
    simp only [e, h, and_self, decide_true, if_true]
    by_cases h1 : 0 ≤ b ∧ b ≤ a - 1
    · simp only [h1, and_self, decide_true, if_true]
      rw [if_neg (show ¬ b < 0 by omega), if_neg (show ¬ b ≥ a by omega)]
      by_cases h2 : 0 ≤ c ∧ c ≤ a - 1
      · simp only [h2, and_self, decide_true, if_true]
        rw [if_neg (show ¬ c < 0 by omega), if_neg (show ¬ c ≥ a by omega)]
      · simp only [h2, decide_false]
        by_cases h3 : c < 0
        · rw [if_pos h3]; rfl
        · rw [if_neg h3, if_pos (show c ≥ a by omega)]; rfl
    · simp only [h1, decide_false]
      by_cases h3 : b < 0
      · rw [if_pos h3]; rfl
      · rw [if_neg h3, if_pos (show b ≥ a by omega)]; rfl
  · simp [h]
theorem newSpray_some (a b c d : Int) : ∃ l tt there ok, spec_NewSpray.f a b c d = some (l, tt, there, ok) ∧ l.length ≤ 8 := by
  unfold spec_NewSpray.f
  simp only [in_eq, Option.bind_some]
  by_cases h : 2 ≤ a ∧ a ≤ 8
  · rw [if_pos (by simpa using h)]
    by_cases h1 : b < 0
    · rw [if_pos h1]; exact ⟨_, _, _, _, rfl, by simp⟩
    · rw [if_neg h1]
      by_cases h2 : b ≥ a
      · rw [if_pos h2]; exact ⟨_, _, _, _, rfl, by simp⟩
      · rw [if_neg h2]
        by_cases h3 : c < 0
        · rw [if_pos h3]; exact ⟨_, _, _, _, rfl, by simp⟩
        · rw [if_neg h3]
          by_cases h4 : c ≥ a
          · rw [if_pos h4]; exact ⟨_, _, _, _, rfl, by simp⟩
          · rw [if_neg h4]
            by_cases h5 : b = c
            · rw [if_pos h5]; exact ⟨_, _, _, _, rfl, by simp⟩
            · rw [if_neg h5]
              by_cases h6 : 1 ≤ d ∧ d ≤ 64
              · rw [if_pos (by simpa using h6), if_pos (by omega), if_pos (by omega), if_pos (by omega), if_pos (by rw [List.length_replicate]; omega)]
                exact ⟨_, _, _, _, rfl, by rw [List.length_set, List.length_replicate]; omega⟩
              · rw [if_neg (by simpa using h6)]; exact ⟨_, _, _, _, rfl, by simp⟩
  · rw [if_neg (by simpa using h)]; exact ⟨_, _, _, _, rfl, by simp⟩
theorem eqSpray_same (l : List Int) (tt : Int) (t : Bool) (h : l.length ≤ 8) (k : Nat) (hk : 8 < k) : laws_eqSpray.f k l tt t l tt t = some true := by
  unfold laws_eqSpray.f
  rw [eqIntS_same l (by omega) k (by omega)]
  simp
theorem FnExactNewSpray : laws_FnExactNewSpray.Pure := by
  intro a b c d wa _ _ _
  obtain ⟨l, tt, t, ok, hs, hl⟩ := newSpray_some a b c d
  have hi := newSpray_eq a b c d wa
  rw [hs] at hi
  refine ⟨11, ?_⟩
  unfold laws_FnExactNewSpray.f
  rw [hs, hi]
  simp only [Option.bind_some]
  rw [eqSpray_same l tt t hl _ (by omega)]
  simp only [Option.bind_some, if_true, laws_FnExactNewSpray.j0, bne_self_eq_false]
  rw [if_neg (by decide)]
  unfold laws_markSpray.f laws_heldSpray.f
  rw [markIntS_is l 1 _ (by omega) (by omega) (by omega) (by omega)]
  simp only [Option.bind_some]
  rw [heldIntS_is l.length 1 _ (by omega) (by omega) (by omega) (by omega)]
  simp only [Option.bind_some]
  rw [if_neg (show ¬ ((1 : Int) + l.length < 0) by omega)]
  simp only [Option.bind_some]
  rw [if_neg (show ¬ ((1 : Int) + l.length < 0) by omega), if_pos trivial, hi]
  simp only [Option.bind_some]
  rw [eqSpray_same l tt t hl _ (by omega)]
  simp only [Option.bind_some, if_true, laws_FnExactNewSpray.j1, bne_self_eq_false]
  rw [if_neg (by decide)]
  unfold laws_heldSpray.f
  rw [heldIntS_is l.length 1 _ (by omega) (by omega) (by omega) (by omega)]
  simp only [Option.bind_some]
  rw [if_neg (show ¬ ((1 : Int) + l.length < 0) by omega)]
  simp only [Option.bind_some]
  rw [if_neg (show ¬ ((1 : Int) + l.length < 0) by omega), if_pos trivial]

end Go.Proofs.Ytpnfmbdiffjinaa.Pure
