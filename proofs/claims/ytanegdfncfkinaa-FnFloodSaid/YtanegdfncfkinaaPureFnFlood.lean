/- Word that spreads is just where it can be by then, for all bytes that the plans, nodes and times are drawn from. -/
import Derived.Test.YtanegdfncfkinaaXFnFloodx8
set_option linter.unusedVariables false
set_option linter.unusedSimpArgs false
namespace Go.Proofs.Ytanegdfncfkinaa.Pure
open Go.RowKit Go.Proofs.Ytanegdfncfkinaa.XFnFlood Go.Proofs.YtanegdfncfkinaaW.PrintWords Go.Proofs.YtanegdfncfkinaaW.PrintLast Go.Proofs.YtanegdfncfkinaaW.PrintMore

/-- What is to be shown of FnFlood, in numbers and lists alone. -/
def laws_FnFlood.Stmt : Prop := ∀ (l0 : List Int), (l0.length ≤ maxLen ∧ ∀ x ∈ l0, (Lit.int .u8 x).wf = true) → ∃ k, laws_FnFlood.f k l0 = some true

theorem wrap_in {x : Int} (h0 : -9223372036854775808 ≤ x) (h1 : x ≤ 9223372036854775807) : wrap64 x = x := by
  unfold wrap64
  omega
theorem wrap_succ {i n : Nat} (h : i < n) (hn : n ≤ 9223372036854775807) : wrap64 ((i : Int) + 1) = ((i + 1 : Nat) : Int) := by
  rw [wrap_in (by omega) (by omega)]
  omega

theorem sin_is (a b c : Int) : spec_l1In.f a b c = some (decide (b ≤ a ∧ a ≤ c)) := by
  unfold spec_l1In.f
  by_cases h : a ≥ b
  · have h' : b ≤ a := h
    simp [h']
  · have h' : ¬ b ≤ a := h
    simp [h']
theorem iin_is (a b c : Int) : impl_within.f a b c = some (decide (b ≤ a ∧ a ≤ c)) := by
  unfold impl_within.f
  by_cases h : b ≤ a <;> simp [h]
theorem rd104_mem (l : List S58) (i : Nat) (h : i < l.length) : rd_T58 l (i : Int) ∈ l := by
  unfold rd_T58
  rw [show (i : Int).toNat = i from rfl, List.getD_eq_getElem?_getD, List.getElem?_eq_getElem h]
  exact List.getElem_mem h
theorem drop104 (l : List S58) (i : Nat) (h : i < l.length) : l.drop i = rd_T58 l (i : Int) :: l.drop (i + 1) := by
  rw [List.drop_eq_getElem_cons h]
  unfold rd_T58
  simp [List.getD_eq_getElem?_getD, List.getElem?_eq_getElem h]
/-- A contact that is one, and a plan of such. -/
def GC (c : S58) : Prop := (0 ≤ c.f0 ∧ c.f0 < 8) ∧ (0 ≤ c.f1 ∧ c.f1 < 8) ∧ c.f0 ≠ c.f1 ∧ (0 ≤ c.f3 ∧ c.f3 ≤ 1000) ∧ 0 ≤ c.f2 ∧ c.f2 < c.f3 ∧ (0 ≤ c.f4 ∧ c.f4 ≤ 100)
noncomputable instance (c : S58) : Decidable (GC c) := Classical.propDecidable _
def GP (l : List S58) : Prop := (∀ c ∈ l, GC c) ∧ l.length ≤ 20
noncomputable instance (l : List S58) : Decidable (GP l) := Classical.propDecidable _
theorem snode_is (a : Int) : spec_l6Node.f a = some (decide (0 ≤ a ∧ a < 8)) := by
  unfold spec_l6Node.f
  by_cases h : a ≥ 0
  · have h' : 0 ≤ a := h
    simp [h']
  · have h' : ¬ 0 ≤ a := h
    simp [h']
theorem inode_is (a : Int) : impl_isNode.f a = some (decide (0 ≤ a ∧ a < 8)) := by
  unfold impl_isNode.f
  rw [iin_is]
  exact congrArg some (decide_eq_decide.mpr (by omega))
theorem swhen_is (a : Int) : spec_l6When.f a = some (decide (0 ≤ a ∧ a ≤ 1000)) := by
  unfold spec_l6When.f
  rw [sin_is]
  rfl
theorem iwhen_is (a : Int) : impl_isWhen.f a = some (decide (0 ≤ a ∧ a ≤ 1000)) := by
  unfold impl_isWhen.f
  rw [iin_is]
  rfl
theorem splan_l0 (x l : List S58) (hn : l.length ≤ 1048576) (d : Nat) : ∀ (k i : Nat), l.length - i = d → i ≤ l.length → d < k →
    spec_GoodPlan.l0 k x l (l.length : Int) (i : Int) = some (decide ((∀ c ∈ l.drop i, GC c) ∧ x.length ≤ 20)) := by
  induction d with
  | zero =>
    intro k i hd hi hk
    obtain ⟨k, rfl⟩ : ∃ m, k = m + 1 := ⟨k - 1, by omega⟩
    rw [spec_GoodPlan.l0, if_neg (by omega), List.drop_of_length_le (by omega)]
    exact congrArg some (decide_eq_decide.mpr ⟨fun h => ⟨by simp, by omega⟩, fun h => by have := h.2; omega⟩)
  | succ d ih =>
    intro k i hd hi hk
    obtain ⟨k, rfl⟩ : ∃ m, k = m + 1 := ⟨k - 1, by omega⟩
    rw [spec_GoodPlan.l0, if_pos (by omega), if_pos (by omega), if_pos (by omega), snode_is, snode_is, swhen_is, sin_is, wrap_succ (n := l.length) (by omega) (by omega), ih k (i + 1) (by omega) (by omega) (by omega), drop104 l i (by omega)]
    generalize rd_T58 l (i : Int) = c
    simp only [Option.bind_some, decide_eq_true_eq]
    have no : ∀ (I : Decidable ((∀ y ∈ c :: l.drop (i + 1), GC y) ∧ x.length ≤ 20)), ¬ GC c → some false = some (@decide _ I) := fun I h => congrArg some (decide_eq_false fun g => h (g.1 _ List.mem_cons_self)).symm
    by_cases c1 : 0 ≤ c.f0 ∧ c.f0 < 8
    · rw [if_pos c1]
      by_cases c2 : 0 ≤ c.f1 ∧ c.f1 < 8
      · rw [if_pos c2]
        by_cases c3 : c.f0 = c.f1
        · rw [if_pos c3]
          exact no _ fun h => h.2.2.1 c3
        · rw [if_neg c3]
          by_cases c4 : 0 ≤ c.f3 ∧ c.f3 ≤ 1000
          · rw [if_pos c4]
            by_cases c5 : c.f2 < 0
            · rw [if_pos c5]
              exact no _ fun h => by have := h.2.2.2.2.1; omega
            · rw [if_neg c5]
              by_cases c6 : c.f2 ≥ c.f3
              · rw [if_pos c6]
                exact no _ fun h => by have := h.2.2.2.2.2.1; omega
              · rw [if_neg c6]
                by_cases c7 : 0 ≤ c.f4 ∧ c.f4 ≤ 100
                · rw [if_pos c7]
                  have g : GC c := ⟨c1, c2, c3, c4, by omega, by omega, c7⟩
                  exact congrArg some (decide_eq_decide.mpr ⟨fun h => ⟨List.forall_mem_cons.mpr ⟨g, h.1⟩, h.2⟩, fun h => ⟨(List.forall_mem_cons.mp h.1).2, h.2⟩⟩)
                · rw [if_neg c7]
                  exact no _ fun h => c7 h.2.2.2.2.2.2
          · rw [if_neg c4]
            exact no _ fun h => c4 h.2.2.2.1
      · rw [if_neg c2]
        exact no _ fun h => c2 h.2.1
    · rw [if_neg c1]
      exact no _ fun h => c1 h.1
theorem splan_is (l : List S58) (hn : l.length ≤ 1048576) (k : Nat) (hk : 1048576 < k) : spec_GoodPlan.f k l = some (decide (GP l)) := by
  unfold spec_GoodPlan.f
  have := splan_l0 l l hn l.length k 0 (by omega) (by omega) (by omega)
  rw [show ((0 : Nat) : Int) = 0 from rfl] at this
  rw [this]
  exact congrArg some (decide_eq_decide.mpr (by rw [List.drop_zero]; exact Iff.rfl))
theorem iunlike_is (a b : Int) : impl_areUnlike.f a b = some (decide ((0 ≤ a ∧ a < 8) ∧ (0 ≤ b ∧ b < 8) ∧ a ≠ b)) := by
  unfold impl_areUnlike.f
  rw [inode_is, inode_is]
  simp only [Option.bind_some, decide_eq_true_eq]
  by_cases c1 : 0 ≤ a ∧ a < 8
  · rw [if_pos c1]
    by_cases c2 : 0 ≤ b ∧ b < 8
    · rw [if_pos c2]
      congr 1
      rw [Bool.eq_iff_iff, decide_eq_true_eq, bne_iff_ne]
      exact ⟨fun h => ⟨c1, c2, h⟩, fun h => h.2.2⟩
    · rw [if_neg c2]
      exact congrArg some (decide_eq_false fun h => c2 h.2.1).symm
  · rw [if_neg c1]
    exact congrArg some (decide_eq_false fun h => c1 h.1).symm
theorem ilit_is (c : S58) : impl_GoodPlan_lit1.f c.f0 c.f1 c.f2 c.f3 c.f4 = some (!decide (GC c)) := by
  unfold impl_GoodPlan_lit1.f
  rw [iunlike_is, iin_is]
  simp only [Option.bind_some, decide_eq_true_eq]
  have no : ¬ GC c → some true = some (!decide (GC c)) := fun h => by rw [decide_eq_false h]; rfl
  by_cases c1 : (0 ≤ c.f0 ∧ c.f0 < 8) ∧ (0 ≤ c.f1 ∧ c.f1 < 8) ∧ c.f0 ≠ c.f1
  · rw [if_pos c1]
    by_cases c2 : c.f2 < 0
    · rw [if_pos c2]
      exact no fun h => by have := h.2.2.2.2.1; omega
    · rw [if_neg c2]
      by_cases c3 : c.f2 ≥ c.f3
      · rw [if_pos c3]
        exact no fun h => by have := h.2.2.2.2.2.1; omega
      · rw [if_neg c3]
        by_cases c4 : c.f3 > 1000
        · rw [if_pos c4]
          exact no fun h => by have := h.2.2.2.1; omega
        · rw [if_neg c4]
          congr 2
          exact decide_eq_decide.mpr ⟨fun h => ⟨c1.1, c1.2.1, c1.2.2, by omega, by omega, by omega, h⟩, fun h => h.2.2.2.2.2.2⟩
  · rw [if_neg c1]
    exact no fun h => c1 ⟨h.1, h.2.1, h.2.2.1⟩
theorem iidx_l0 (x : List S58) (hn : x.length ≤ 1048576) (d : Nat) : ∀ (i : Nat), x.length - i = d → i ≤ x.length →
    ∃ r : Int, (r ≥ 0 ↔ ¬ ∀ y ∈ x.drop i, GC y) ∧ ∀ k, d < k → impl_Contact_impl_GoodPlan_lit1_2.l0 k x (x.length : Int) (i : Int) = some r := by
  induction d with
  | zero =>
    intro i hd hi
    refine ⟨-1, ?_, fun k hk => ?_⟩
    · rw [List.drop_of_length_le (by omega)]
      simp
    · obtain ⟨k, rfl⟩ : ∃ m, k = m + 1 := ⟨k - 1, by omega⟩
      rw [impl_Contact_impl_GoodPlan_lit1_2.l0, if_neg (by omega)]
  | succ d ih =>
    intro i hd hi
    by_cases c : GC (rd_T58 x (i : Int))
    · obtain ⟨r, hr, h2⟩ := ih (i + 1) (by omega) (by omega)
      refine ⟨r, ?_, fun k hk => ?_⟩
      · rw [hr, drop104 x i (by omega)]
        simp only [List.forall_mem_cons, c, true_and]
      · obtain ⟨k, rfl⟩ : ∃ m, k = m + 1 := ⟨k - 1, by omega⟩
        rw [impl_Contact_impl_GoodPlan_lit1_2.l0, if_pos (by omega), if_pos (by omega), if_pos (by omega), ilit_is, wrap_succ (n := x.length) (by omega) (by omega), decide_eq_true c, Option.bind_some, if_neg (by decide)]
        exact h2 k (by omega)
    · refine ⟨(i : Int), ?_, fun k hk => ?_⟩
      · rw [drop104 x i (by omega)]
        exact ⟨fun _ h => c (h _ List.mem_cons_self), fun _ => by omega⟩
      · obtain ⟨k, rfl⟩ : ∃ m, k = m + 1 := ⟨k - 1, by omega⟩
        rw [impl_Contact_impl_GoodPlan_lit1_2.l0, if_pos (by omega), if_pos (by omega), if_pos (by omega), ilit_is, decide_eq_false c, Option.bind_some, if_pos (by decide)]
theorem iplan_is (l : List S58) (hn : l.length ≤ 1048576) (k : Nat) (hk : 1048576 < k) : impl_GoodPlan.f k l = some (decide (GP l)) := by
  unfold impl_GoodPlan.f impl_Contact_impl_GoodPlan_lit1.f impl_Contact_impl_GoodPlan_lit1_2.f
  obtain ⟨r, hr, e⟩ := iidx_l0 l hn l.length 0 (by omega) (by omega)
  rw [List.drop_zero] at hr
  have e' := e k (by omega)
  rw [show ((0 : Nat) : Int) = 0 from rfl] at e'
  rw [e']
  simp only [Option.bind_some]
  by_cases c : (l.length : Int) ≤ 20
  · rw [if_pos c]
    congr 1
    rw [Bool.eq_iff_iff, Bool.not_eq_true', decide_eq_false_iff_not, decide_eq_true_eq, hr]
    exact ⟨fun h => ⟨Classical.not_not.mp h, by omega⟩, fun h g => g h.1⟩
  · rw [if_neg c]
    exact congrArg some (decide_eq_false fun h => c (by have := h.2; omega)).symm

/-! The search: what a contact offers, the best of a row of contacts. -/
theorem set_len {l : List Int} {i : Nat} {v : Int} : (l.set i v).length = l.length := List.length_set
theorem rd_set (l : List Int) (i : Nat) (v j : Int) (hi : i < l.length) (hj : 0 ≤ j) : rd (l.set i v) j = if j = (i : Int) then v else rd l j := by
  unfold rd
  rw [List.getD_eq_getElem?_getD, List.getD_eq_getElem?_getD, List.getElem?_set]
  by_cases c : i = j.toNat
  · rw [if_pos c, if_pos hi, if_pos (by omega)]
    rfl
  · rw [if_neg c, if_neg (by omega)]
/-- When what leaves at a comes over the contact. -/
def over (c : S58) (a : Int) : Int := (if a < c.f2 then c.f2 else a) + c.f4
/-- What a contact offers: it is open behind the time its near end was reached, and its far end would be reached earlier. -/
def cand (r : List Int) (c : S58) : Option Int := if rd r c.f0 < 0 then none else if c.f3 ≤ rd r c.f0 then none else if 0 ≤ rd r c.f1 ∧ rd r c.f1 ≤ over c (rd r c.f0) then none else some (over c (rd r c.f0))
def pick2 (i : Int) (bt : Int × Int) (o : Option Int) : Int × Int := match o with
  | none => bt
  | some u => if bt.1 < 0 ∨ u < bt.2 then (i, u) else bt
def scan (r : List Int) : List S58 → Nat → Int × Int → Int × Int
  | [], _, bt => bt
  | c :: cs, i, bt => scan r cs (i + 1) (pick2 (i : Int) bt (cand r c))
theorem iby_is (c : S58) (hc : GC c) (a : Int) (h0 : 0 ≤ a) (h1 : a ≤ 2000) : impl_Contact_by.f c.f0 c.f1 c.f2 c.f3 c.f4 a = some (over c a, decide (a < c.f3)) := by
  obtain ⟨g1, g2, g3, g4, g5, g6, g7⟩ := hc
  have e : mx a c.f2 = if a < c.f2 then c.f2 else a := rfl
  unfold impl_Contact_by.f over
  rw [e]
  congr 1
  refine Prod.ext ?_ ?_
  · dsimp only
    rw [wrap_in]
    · split <;> omega
    · split <;> omega
  · dsimp only
    exact decide_eq_decide.mpr (by split <;> omega)
theorem over_ge (c : S58) (hc : GC c) (a : Int) (h0 : 0 ≤ a) (h : ¬ c.f3 ≤ a) : a ≤ over c a ∧ over c a ≤ 1100 ∧ 0 ≤ over c a := by
  obtain ⟨g1, g2, g3, g4, g5, g6, g7⟩ := hc
  unfold over
  split <;> omega

/-! The search over an abstract row of times: each step sets a node that was not set, behind all that is set. -/
theorem scan_spec (r : List Int) (l : List S58) : ∀ (i : Nat) (bt : Int × Int),
    ((scan r l i bt).1 < 0 → bt.1 < 0 ∧ ∀ c ∈ l, cand r c = none) ∧
    (0 ≤ (scan r l i bt).1 → (0 ≤ bt.1 → (scan r l i bt).2 ≤ bt.2) ∧ (∀ c ∈ l, ∀ u, cand r c = some u → (scan r l i bt).2 ≤ u) ∧
      (scan r l i bt = bt ∨ ∃ j : Nat, j < l.length ∧ (scan r l i bt).1 = ((i + j : Nat) : Int) ∧ cand r (rd_T58 l (j : Int)) = some (scan r l i bt).2)) := by
  induction l with
  | nil =>
    intro i bt
    exact ⟨fun h => ⟨h, by simp⟩, fun h => ⟨fun _ => Int.le_refl _, by simp, Or.inl rfl⟩⟩
  | cons c cs ih =>
    intro i bt
    have up : ∀ (R : Int × Int), (∃ j : Nat, j < cs.length ∧ R.1 = ((i + 1 + j : Nat) : Int) ∧ cand r (rd_T58 cs (j : Int)) = some R.2) →
        ∃ j : Nat, j < (c :: cs).length ∧ R.1 = ((i + j : Nat) : Int) ∧ cand r (rd_T58 (c :: cs) (j : Int)) = some R.2 := by
      intro R ⟨j, h1, h2, h3⟩
      refine ⟨j + 1, by simp only [List.length_cons]; omega, by rw [h2]; congr 1; omega, ?_⟩
      rw [show rd_T58 (c :: cs) ((j + 1 : Nat) : Int) = rd_T58 cs (j : Int) from rfl]
      exact h3
    cases e : cand r c with
    | none =>
      have h := ih (i + 1) bt
      rw [show scan r (c :: cs) i bt = scan r cs (i + 1) bt from by rw [scan, e]; rfl]
      refine ⟨fun g => ⟨(h.1 g).1, List.forall_mem_cons.mpr ⟨e, (h.1 g).2⟩⟩, fun g => ⟨(h.2 g).1, ?_, ?_⟩⟩
      · exact List.forall_mem_cons.mpr ⟨fun u hu => (by rw [e] at hu; cases hu), (h.2 g).2.1⟩
      · rcases (h.2 g).2.2 with h3 | h3
        · exact Or.inl h3
        · exact Or.inr (up _ h3)
    | some u =>
      by_cases q : bt.1 < 0 ∨ u < bt.2
      · have h := ih (i + 1) ((i : Int), u)
        rw [show scan r (c :: cs) i bt = scan r cs (i + 1) ((i : Int), u) from by rw [scan, e, pick2, if_pos q]]
        generalize hR : scan r cs (i + 1) ((i : Int), u) = R at h
        have hi : (0 : Int) ≤ (i : Int) := by omega
        refine ⟨fun g => ?_, fun g => ⟨fun g2 => ?_, ?_, ?_⟩⟩
        · have := (h.1 g).1
          dsimp only at this
          omega
        · have h1 := (h.2 g).1 hi
          dsimp only at h1
          rcases q with q | q <;> omega
        · refine List.forall_mem_cons.mpr ⟨fun w hw => ?_, (h.2 g).2.1⟩
          rw [e] at hw
          cases hw
          exact (h.2 g).1 hi
        · rcases (h.2 g).2.2 with h3 | h3
          · refine Or.inr ⟨0, by simp, by rw [h3]; rfl, ?_⟩
            rw [show rd_T58 (c :: cs) ((0 : Nat) : Int) = c from rfl, e, h3]
          · exact Or.inr (up _ h3)
      · have h := ih (i + 1) bt
        rw [show scan r (c :: cs) i bt = scan r cs (i + 1) bt from by rw [scan, e, pick2, if_neg q]]
        generalize hR : scan r cs (i + 1) bt = R at h
        refine ⟨fun g => ?_, fun g => ⟨(h.2 g).1, ?_, ?_⟩⟩
        · have := (h.1 g).1
          omega
        · refine List.forall_mem_cons.mpr ⟨fun w hw => ?_, (h.2 g).2.1⟩
          rw [e] at hw
          cases hw
          have := (h.2 g).1 (by omega)
          omega
        · rcases (h.2 g).2.2 with h3 | h3
          · exact Or.inl h3
          · exact Or.inr (up _ h3)
/-- How many are not set. -/
def unset : List Int → Nat
  | [] => 0
  | x :: l => (if x < 0 then 1 else 0) + unset l
theorem unset_set (v : Int) (hv : 0 ≤ v) : ∀ (l : List Int) (i : Nat), i < l.length → rd l (i : Int) < 0 → unset (l.set i v) + 1 = unset l
  | [], i, h, _ => absurd h (by simp)
  | x :: l, 0, _, hx => by
    rw [show rd (x :: l) ((0 : Nat) : Int) = x from rfl] at hx
    rw [List.set_cons_zero, unset, unset, if_neg (by omega), if_pos hx]
    omega
  | x :: l, i + 1, h, hx => by
    rw [show rd (x :: l) ((i + 1 : Nat) : Int) = rd l (i : Int) from rfl] at hx
    have := unset_set v hv l i (by simpa using h) hx
    rw [List.set_cons_succ, unset, unset]
    omega
/-- The contacts, in order, by which a node was reached. -/
inductive Pth (l : List S58) (src : Int) (r v : List Int) : Int → List Int → Prop
  | nil : Pth l src r v src []
  | snoc {n m : Int} {p : List Int} {i : Nat} : Pth l src r v n p → i < l.length → (rd_T58 l (i : Int)).f0 = n → (rd_T58 l (i : Int)).f1 = m → m ≠ src → rd v m = (i : Int) → 0 ≤ rd r m → 0 ≤ rd r n → rd r n < (rd_T58 l (i : Int)).f3 → 0 ≤ m → 0 ≤ n → rd r m = over (rd_T58 l (i : Int)) (rd r n) → Pth l src r v m (p ++ [(i : Int)])
theorem pth_mono {l : List S58} {src : Int} {r v r' v' : List Int} (h : ∀ n, 0 ≤ n → 0 ≤ rd r n → rd r' n = rd r n ∧ rd v' n = rd v n) {n : Int} {p : List Int} (hp : Pth l src r v n p) : Pth l src r' v' n p := by
  induction hp with
  | nil => exact .nil
  | snoc h0 h1 h2 h3 h4 h5 h6 h7 h8 h9 h10 h11 ih =>
    have a := h _ h9 h6
    have b := h _ h10 h7
    exact .snoc ih h1 h2 h3 h4 (by rw [a.2]; exact h5) (by rw [a.1]; exact h6) (by rw [b.1]; exact h7) (by rw [b.1]; exact h8) h9 h10 (by rw [a.1, b.1]; exact h11)
theorem pth_head {l : List S58} {src : Int} {r v : List Int} {n : Int} {p : List Int} (hp : Pth l src r v n p) : ∀ i q, p = i :: q → 0 ≤ i ∧ i < (l.length : Int) ∧ (rd_T58 l i).f0 = src ∧ rd r src < (rd_T58 l i).f3 := by
  induction hp with
  | nil => intro i q h; cases h
  | @snoc n m p i h0 h1 h2 h3 h4 h5 h6 h7 h8 h9 h10 h11 ih =>
    intro j q e
    cases h0 with
    | nil =>
      rw [List.nil_append] at e
      cases e
      exact ⟨by omega, by omega, h2, h8⟩
    | @snoc n' m' p' i' g0 g1 g2 g3 g4 g5 g6 g7 g8 g9 g10 g11 =>
      cases p' with
      | nil =>
        rw [List.nil_append, List.cons_append, List.nil_append] at e
        cases e
        exact ih _ [] rfl
      | cons a p' =>
        rw [List.cons_append, List.cons_append] at e
        injection e with e1 e2
        subst e1
        exact ih _ (p' ++ [(i' : Int)]) rfl
/-- What stands of a search. -/
structure Inv (l : List S58) (src at' : Int) (r v : List Int) (last : Int) : Prop where
  hr : r.length = 8
  hv : v.length = 8
  hs : rd r src = at'
  hl : ∀ n, 0 ≤ n → n < 8 → rd r n ≤ last
  hc : ∀ c ∈ l, ∀ u, cand r c = some u → last ≤ u
  hb : last ≤ 1100
  hp : ∀ n, 0 ≤ n → n < 8 → 0 ≤ rd r n → ∃ p, Pth l src r v n p ∧ p.length + unset r ≤ 7
theorem cand_some {r : List Int} {c : S58} {u : Int} (h : cand r c = some u) : 0 ≤ rd r c.f0 ∧ rd r c.f0 < c.f3 ∧ (rd r c.f1 < 0 ∨ u < rd r c.f1) ∧ u = over c (rd r c.f0) := by
  unfold cand at h
  by_cases c1 : rd r c.f0 < 0
  · rw [if_pos c1] at h
    cases h
  · rw [if_neg c1] at h
    by_cases c2 : c.f3 ≤ rd r c.f0
    · rw [if_pos c2] at h
      cases h
    · rw [if_neg c2] at h
      by_cases c3 : 0 ≤ rd r c.f1 ∧ rd r c.f1 ≤ over c (rd r c.f0)
      · rw [if_pos c3] at h
        cases h
      · rw [if_neg c3] at h
        injection h with h
        exact ⟨by omega, by omega, by omega, h.symm⟩
theorem cand_mk {r : List Int} {c : S58} (h1 : 0 ≤ rd r c.f0) (h2 : rd r c.f0 < c.f3) (h3 : rd r c.f1 < 0 ∨ over c (rd r c.f0) < rd r c.f1) : cand r c = some (over c (rd r c.f0)) := by
  unfold cand
  rw [if_neg (by omega), if_neg (by omega), if_neg (by omega)]
theorem inv_step {l : List S58} (hg : GP l) {src at' : Int} (h0 : 0 ≤ at') {r v : List Int} {last : Int} (h : Inv l src at' r v last) {j : Nat} {t : Int} (hj : j < l.length) (ht : cand r (rd_T58 l (j : Int)) = some t) (hm : ∀ c ∈ l, ∀ u, cand r c = some u → t ≤ u) :
    Inv l src at' (r.set (rd_T58 l (j : Int)).f1.toNat t) (v.set (rd_T58 l (j : Int)).f1.toNat (j : Int)) t ∧ unset (r.set (rd_T58 l (j : Int)).f1.toNat t) + 1 = unset r := by
  have hmem := rd104_mem l j hj
  have gc := hg.1 _ hmem
  obtain ⟨r0, r1, r2, r3⟩ := cand_some ht
  have lt := h.hc _ hmem _ ht
  have f0 : 0 ≤ (rd_T58 l (j : Int)).f0 ∧ (rd_T58 l (j : Int)).f0 < 8 := gc.1
  have f1 : 0 ≤ (rd_T58 l (j : Int)).f1 ∧ (rd_T58 l (j : Int)).f1 < 8 := gc.2.1
  have l1 := h.hl _ f1.1 f1.2
  have un : rd r (rd_T58 l (j : Int)).f1 < 0 := by omega
  have ge := over_ge _ gc (rd r (rd_T58 l (j : Int)).f0) r0 (by omega)
  have hr := h.hr
  have hv := h.hv
  have hs := h.hs
  have ns : (rd_T58 l (j : Int)).f1 ≠ src := fun e => by rw [e, hs] at un; omega
  generalize hc : rd_T58 l (j : Int) = c at *
  have ec : ((c.f1.toNat : Nat) : Int) = c.f1 := by omega
  have us := unset_set t (by omega) r c.f1.toNat (by omega) (by rw [ec]; exact un)
  have R : ∀ n, 0 ≤ n → rd (r.set c.f1.toNat t) n = if n = c.f1 then t else rd r n := fun n hn => by rw [rd_set _ _ _ _ (by omega) hn, ec]
  have V : ∀ n, 0 ≤ n → rd (v.set c.f1.toNat (j : Int)) n = if n = c.f1 then (j : Int) else rd v n := fun n hn => by rw [rd_set _ _ _ _ (by omega) hn, ec]
  have M : ∀ n, 0 ≤ n → 0 ≤ rd r n → rd (r.set c.f1.toNat t) n = rd r n ∧ rd (v.set c.f1.toNat (j : Int)) n = rd v n := by
    intro n hn h1
    have : n ≠ c.f1 := fun e => by rw [e] at h1; omega
    rw [R n hn, V n hn, if_neg this, if_neg this]
    exact ⟨rfl, rfl⟩
  refine ⟨⟨by rw [List.length_set]; exact hr, by rw [List.length_set]; exact hv, ?_, ?_, ?_, by omega, ?_⟩, us⟩
  · by_cases q : 0 ≤ src
    · rw [R src q, if_neg (fun e => ns e.symm)]
      exact hs
    · have e1 : ∀ x : List Int, rd x src = rd x 0 := fun x => by
        unfold rd
        rw [show src.toNat = 0 from by omega]
        rfl
      rw [e1, R 0 (by omega), if_neg, ← e1]
      · exact hs
      · intro e
        rw [← e, ← e1, hs] at un
        omega
  · intro n n0 n8
    rw [R n n0]
    by_cases q : n = c.f1
    · rw [if_pos q]
      omega
    · rw [if_neg q]
      have := h.hl n n0 n8
      omega
  · intro d hd u hu
    have gd := hg.1 _ hd
    obtain ⟨a0, a1, a2, a3⟩ := cand_some hu
    have d0 : 0 ≤ d.f0 := gd.1.1
    have d1 : 0 ≤ d.f1 := gd.2.1.1
    rw [R _ d0] at a0 a1 a3
    rw [R _ d1] at a2
    by_cases q : d.f0 = c.f1
    · rw [if_pos q] at a0 a1 a3
      have := over_ge d gd t a0 (by omega)
      omega
    · rw [if_neg q] at a0 a1 a3
      refine hm d hd u ?_
      rw [a3]
      refine cand_mk a0 a1 ?_
      by_cases q1 : d.f1 = c.f1
      · rw [q1]
        exact Or.inl un
      · rw [if_neg q1] at a2
        rw [← a3]
        exact a2
  · intro n n0 n8 hn
    by_cases q : n = c.f1
    · obtain ⟨p, p1, p2⟩ := h.hp _ f0.1 f0.2 r0
      have R0 := R c.f0 f0.1
      rw [if_neg gc.2.2.1] at R0
      refine ⟨p ++ [(j : Int)], ?_, by rw [List.length_append, List.length_singleton]; omega⟩
      rw [q]
      refine Pth.snoc (pth_mono M p1) hj (by rw [hc]) (by rw [hc]) ns ?_ ?_ ?_ ?_ f1.1 f0.1 ?_
      · rw [V _ f1.1, if_pos rfl]
      · rw [R _ f1.1, if_pos rfl]
        omega
      · rw [R0]
        exact r0
      · rw [R0, hc]
        exact r1
      · rw [R _ f1.1, if_pos rfl, R0, hc]
        exact r3
    · rw [R n n0, if_neg q] at hn
      obtain ⟨p, p1, p2⟩ := h.hp n n0 n8 hn
      exact ⟨p, pth_mono M p1, by omega⟩
/-- All steps of a search. -/
def srch (l : List S58) : Nat → List Int → List Int → List Int × List Int
  | 0, r, v => (r, v)
  | d + 1, r, v => if (scan r l 0 (-1, 0)).1 < 0 then (r, v) else srch l d (r.set (rd_T58 l (scan r l 0 (-1, 0)).1).f1.toNat (scan r l 0 (-1, 0)).2) (v.set (rd_T58 l (scan r l 0 (-1, 0)).1).f1.toNat (scan r l 0 (-1, 0)).1)
theorem scan_found {r : List Int} {l : List S58} (h : ¬ (scan r l 0 (-1, 0)).1 < 0) : ∃ j : Nat, j < l.length ∧ (scan r l 0 (-1, 0)).1 = (j : Int) ∧ cand r (rd_T58 l (j : Int)) = some (scan r l 0 (-1, 0)).2 ∧ ∀ c ∈ l, ∀ u, cand r c = some u → (scan r l 0 (-1, 0)).2 ≤ u := by
  have g := (scan_spec r l 0 (-1, 0)).2 (by omega)
  rcases g.2.2 with e | ⟨j, h1, h2, h3⟩
  · rw [e] at h
    exact absurd (show (-1 : Int) < 0 from by decide) h
  · exact ⟨j, h1, by rw [h2]; congr 1; omega, h3, g.2.1⟩
theorem srch_inv {l : List S58} (hg : GP l) {src at' : Int} (h0 : 0 ≤ at') (d : Nat) : ∀ (r v : List Int) (last : Int), Inv l src at' r v last → ∃ last', Inv l src at' (srch l d r v).1 (srch l d r v).2 last' := by
  induction d with
  | zero => exact fun r v last h => ⟨last, h⟩
  | succ d ih =>
    intro r v last h
    rw [srch]
    by_cases c : (scan r l 0 (-1, 0)).1 < 0
    · rw [if_pos c]
      exact ⟨last, h⟩
    · rw [if_neg c]
      obtain ⟨j, h1, h2, h3, h4⟩ := scan_found c
      rw [h2]
      exact ih _ _ _ (inv_step hg h0 h h1 h3 h4).1
def r0 (src at' : Int) : List Int := (List.replicate 8 (-1)).set src.toNat at'
def v0 : List Int := List.replicate 8 (-1)
theorem rd_rep (n : Int) (h0 : 0 ≤ n) (h8 : n < 8) : rd (List.replicate 8 (-1)) n = -1 := by
  unfold rd
  rw [List.getD_eq_getElem?_getD, List.getElem?_replicate, if_pos (by omega)]
  rfl
theorem r0_rd (src at' : Int) (hs : 0 ≤ src ∧ src < 8) (n : Int) (h0 : 0 ≤ n) (h8 : n < 8) : rd (r0 src at') n = if n = src then at' else -1 := by
  unfold r0
  rw [rd_set _ _ _ _ (by rw [List.length_replicate]; omega) h0, rd_rep n h0 h8, show ((src.toNat : Nat) : Int) = src from by omega]
theorem r0_unset (src at' : Int) (hs : 0 ≤ src ∧ src < 8) (ha : 0 ≤ at') : unset (r0 src at') = 7 := by
  have := unset_set at' ha (List.replicate 8 (-1)) src.toNat (by rw [List.length_replicate]; omega) (by rw [show ((src.toNat : Nat) : Int) = src from by omega, rd_rep src hs.1 hs.2]; decide)
  have e : unset (List.replicate 8 (-1)) = 8 := by decide
  unfold r0
  omega
theorem inv0 {l : List S58} (hg : GP l) {src at' : Int} (hs : 0 ≤ src ∧ src < 8) (ha : 0 ≤ at' ∧ at' ≤ 1000) : Inv l src at' (r0 src at') v0 at' := by
  refine ⟨by unfold r0; rw [List.length_set, List.length_replicate], by unfold v0; rw [List.length_replicate], by rw [r0_rd src at' hs src hs.1 hs.2, if_pos rfl], ?_, ?_, by omega, ?_⟩
  · intro n n0 n8
    rw [r0_rd src at' hs n n0 n8]
    split <;> omega
  · intro c hc u hu
    obtain ⟨a0, a1, a2, a3⟩ := cand_some hu
    have gc := hg.1 c hc
    rw [r0_rd src at' hs _ gc.1.1 gc.1.2] at a0 a1 a3
    by_cases q : c.f0 = src
    · rw [if_pos q] at a0 a1 a3
      have := over_ge c gc at' a0 (by omega)
      omega
    · rw [if_neg q] at a0
      omega
  · intro n n0 n8 hn
    rw [r0_rd src at' hs n n0 n8] at hn
    by_cases q : n = src
    · rw [q]
      exact ⟨[], Pth.nil, by rw [r0_unset src at' hs ha.1]; simp⟩
    · rw [if_neg q] at hn
      omega

theorem i_l1 {l : List S58} (hg : GP l) {r v : List Int} (hr : r.length = 8) (hb : ∀ n, 0 ≤ n → n < 8 → rd r n ≤ 1100) (R : List Int × List Int) (B : Nat) (d : Nat) : ∀ (i : Nat) (b t : Int), l.length - i = d → i ≤ l.length →
    (∀ k, B ≤ k → impl_reach.l1 k l r v (scan r (l.drop i) i (b, t)).1 (scan r (l.drop i) i (b, t)).2 l (l.length : Int) (l.length : Int) = some R) →
    ∀ k, B + d ≤ k → impl_reach.l1 k l r v b t l (l.length : Int) (i : Int) = some R := by
  have h20 := hg.2
  induction d with
  | zero =>
    intro i b t hd hi h k hk
    have e : i = l.length := by omega
    subst e
    have := h k (by omega)
    rw [List.drop_length, scan] at this
    exact this
  | succ d ih =>
    intro i b t hd hi h k hk
    obtain ⟨k, rfl⟩ : ∃ m, k = m + 1 := ⟨k - 1, by omega⟩
    rw [drop104 l i (by omega), scan] at h
    have gc := hg.1 _ (rd104_mem l i (by omega))
    rw [impl_reach.l1, if_pos (by omega), if_pos (by omega), if_pos (by omega)]
    have wr : wrap64 ((i : Int) + 1) = ((i + 1 : Nat) : Int) := wrap_succ (n := l.length) (by omega) (by omega)
    generalize rd_T58 l (i : Int) = c at *
    have f0 : 0 ≤ c.f0 ∧ c.f0 < 8 := gc.1
    have f1 : 0 ≤ c.f1 ∧ c.f1 < 8 := gc.2.1
    have b0 := hb c.f0 f0.1 f0.2
    rw [if_pos f0.1, if_pos (by omega), wr]
    by_cases c1 : rd r c.f0 < 0
    · rw [if_pos c1]
      have e : cand r c = none := by rw [cand, if_pos c1]
      rw [e, pick2] at h
      exact ih (i + 1) b t (by omega) (by omega) h k (by omega)
    · rw [if_neg c1, iby_is c gc _ (by omega) (by omega), Option.bind_some]
      dsimp only
      by_cases c2 : c.f3 ≤ rd r c.f0
      · have e : cand r c = none := by rw [cand, if_neg c1, if_pos c2]
        rw [e, pick2] at h
        rw [decide_eq_false (by omega), if_neg (by decide)]
        exact ih (i + 1) b t (by omega) (by omega) h k (by omega)
      · rw [decide_eq_true (by omega), if_pos rfl, if_pos f1.1, if_pos (by omega)]
        have J : cand r c = some (over c (rd r c.f0)) → (if b < 0 then impl_reach.l1 k l r v (i : Int) (over c (rd r c.f0)) l (l.length : Int) ((i + 1 : Nat) : Int) else if over c (rd r c.f0) < t then impl_reach.l1 k l r v (i : Int) (over c (rd r c.f0)) l (l.length : Int) ((i + 1 : Nat) : Int) else impl_reach.l1 k l r v b t l (l.length : Int) ((i + 1 : Nat) : Int)) = some R := by
          intro h2
          rw [h2, pick2] at h
          by_cases c3 : b < 0
          · rw [if_pos (Or.inl c3)] at h
            rw [if_pos c3]
            exact ih (i + 1) _ _ (by omega) (by omega) h k (by omega)
          · rw [if_neg c3]
            by_cases c4 : over c (rd r c.f0) < t
            · rw [if_pos (Or.inr c4)] at h
              rw [if_pos c4]
              exact ih (i + 1) _ _ (by omega) (by omega) h k (by omega)
            · rw [if_neg (by intro g; rcases g with g | g; exact c3 g; exact c4 g)] at h
              rw [if_neg c4]
              exact ih (i + 1) _ _ (by omega) (by omega) h k (by omega)
        by_cases c5 : rd r c.f1 < 0
        · rw [if_pos c5]
          exact J (by rw [cand, if_neg c1, if_neg c2, if_neg fun q => by have := q.1; omega])
        · rw [if_neg c5]
          by_cases c6 : over c (rd r c.f0) < rd r c.f1
          · rw [if_pos c6]
            exact J (by rw [cand, if_neg c1, if_neg c2, if_neg fun q => by have := q.2; omega])
          · rw [if_neg c6]
            have e : cand r c = none := by rw [cand, if_neg c1, if_neg c2, if_pos ⟨by omega, by omega⟩]
            rw [e, pick2] at h
            exact ih (i + 1) b t (by omega) (by omega) h k (by omega)
theorem i_l0 {l : List S58} (hg : GP l) {src at' : Int} (h0 : 0 ≤ at') (d : Nat) : ∀ (r v : List Int) (last : Int), Inv l src at' r v last → unset r ≤ d → ∀ k, 50 * (d + 1) ≤ k → impl_reach.l0 k l r v = some (srch l d r v) := by
  have h20 := hg.2
  induction d with
  | zero =>
    intro r v last h hu k hk
    obtain ⟨k, rfl⟩ : ∃ m, k = m + 1 := ⟨k - 1, by omega⟩
    have hb := h.hb
    rw [impl_reach.l0]
    refine i_l1 hg h.hr (fun n n0 n8 => by have := h.hl n n0 n8; omega) _ 1 l.length 0 (-1) 0 (by omega) (by omega) ?_ k (by omega)
    intro k hk
    obtain ⟨k, rfl⟩ : ∃ m, k = m + 1 := ⟨k - 1, by omega⟩
    rw [List.drop_zero, impl_reach.l1, if_neg (by omega)]
    by_cases c : (scan r l 0 (-1, 0)).1 < 0
    · rw [if_pos c]
      rfl
    · obtain ⟨j, h1, h2, h3, h4⟩ := scan_found c
      have := (inv_step hg h0 h h1 h3 h4).2
      omega
  | succ d ih =>
    intro r v last h hu k hk
    obtain ⟨k, rfl⟩ : ∃ m, k = m + 1 := ⟨k - 1, by omega⟩
    have hb := h.hb
    have hr := h.hr
    have hv := h.hv
    rw [impl_reach.l0]
    refine i_l1 hg hr (fun n n0 n8 => by have := h.hl n n0 n8; omega) _ (50 * (d + 1) + 1) l.length 0 (-1) 0 (by omega) (by omega) ?_ k (by omega)
    intro k hk
    obtain ⟨k, rfl⟩ : ∃ m, k = m + 1 := ⟨k - 1, by omega⟩
    rw [List.drop_zero, impl_reach.l1, if_neg (by omega), srch]
    by_cases c : (scan r l 0 (-1, 0)).1 < 0
    · rw [if_pos c, if_pos c]
    · rw [if_neg c, if_neg c]
      obtain ⟨j, h1, h2, h3, h4⟩ := scan_found c
      have st := inv_step hg h0 h h1 h3 h4
      have gc := hg.1 _ (rd104_mem l j h1)
      have f1 : 0 ≤ (rd_T58 l (j : Int)).f1 ∧ (rd_T58 l (j : Int)).f1 < 8 := gc.2.1
      rw [h2, if_pos (by omega), if_pos (by omega), if_pos f1.1, if_pos (by omega), if_pos (by omega)]
      exact ih _ _ _ st.1 (by omega) k (by omega)
/-- What a search finds. -/
def found (l : List S58) (src at' : Int) : List Int × List Int := srch l 7 (r0 src at') v0
theorem ireach_is {l : List S58} (hg : GP l) {src at' : Int} (hs : 0 ≤ src ∧ src < 8) (ha : 0 ≤ at' ∧ at' ≤ 1000) (k : Nat) (hk : 1000 ≤ k) : impl_reach.f k l src at' = some (found l src at') := by
  unfold impl_reach.f
  have e : slices_Repeat_int_int.f ([(-1)] : List Int) 8 = some (List.replicate 8 (-1)) := by
    unfold slices_Repeat_int_int.f
    rw [if_pos (by omega), if_pos (by simp)]
    rfl
  rw [e, Option.bind_some, Option.bind_some, if_pos hs.1, if_pos (by rw [List.length_replicate]; omega)]
  exact i_l0 hg ha.1 7 _ _ _ (inv0 hg hs ha) (by rw [r0_unset src at' hs ha.1]; omega) k (by omega)

theorem srch_end {l : List S58} (hg : GP l) {src at' : Int} (h0 : 0 ≤ at') (d : Nat) : ∀ (r v : List Int) (last : Int), Inv l src at' r v last → unset r ≤ d → ∀ c ∈ l, cand (srch l d r v).1 c = none := by
  induction d with
  | zero =>
    intro r v last h hu
    by_cases c : (scan r l 0 (-1, 0)).1 < 0
    · exact ((scan_spec r l 0 (-1, 0)).1 c).2
    · obtain ⟨j, h1, h2, h3, h4⟩ := scan_found c
      have := (inv_step hg h0 h h1 h3 h4).2
      omega
  | succ d ih =>
    intro r v last h hu
    rw [srch]
    by_cases c : (scan r l 0 (-1, 0)).1 < 0
    · rw [if_pos c]
      exact ((scan_spec r l 0 (-1, 0)).1 c).2
    · rw [if_neg c]
      obtain ⟨j, h1, h2, h3, h4⟩ := scan_found c
      have st := inv_step hg h0 h h1 h3 h4
      rw [h2]
      exact ih _ _ _ st.1 (by omega)

/-! The word spreads, moment by moment. -/
/-- A contact over which it goes on at a moment. -/
def fire (t : Int) (r : List Int) (c : S58) : Prop := 0 ≤ rd r c.f0 ∧ rd r c.f0 ≤ t ∧ c.f2 ≤ t ∧ t < c.f3 ∧ (rd r c.f1 < 0 ∨ t + c.f4 < rd r c.f1)
instance (t : Int) (r : List Int) (c : S58) : Decidable (fire t r c) := by unfold fire; infer_instance
def pass (t : Int) : List S58 → List Int → Bool → List Int × Bool
  | [], r, f => (r, f)
  | c :: cs, r, f => if fire t r c then pass t cs (r.set c.f1.toNat (t + c.f4)) true else pass t cs r f
theorem pass_ind {t : Int} {l : List S58} {Q : List Int → Prop} (hQ : ∀ r c, c ∈ l → Q r → fire t r c → Q (r.set c.f1.toNat (t + c.f4))) : ∀ (cs : List S58) (r : List Int) (f : Bool), (∀ c ∈ cs, c ∈ l) → Q r → Q (pass t cs r f).1
  | [], r, f, _, h => h
  | c :: cs, r, f, hs, h => by
    rw [pass]
    by_cases q : fire t r c
    · rw [if_pos q]
      exact pass_ind hQ cs _ _ (fun d hd => hs d (List.mem_cons_of_mem _ hd)) (hQ r c (hs c List.mem_cons_self) h q)
    · rw [if_neg q]
      exact pass_ind hQ cs _ _ (fun d hd => hs d (List.mem_cons_of_mem _ hd)) h
theorem pass_true (t : Int) : ∀ (cs : List S58) (r : List Int), (pass t cs r true).2 = true
  | [], r => rfl
  | c :: cs, r => by
    rw [pass]
    by_cases q : fire t r c
    · rw [if_pos q]; exact pass_true t cs _
    · rw [if_neg q]; exact pass_true t cs _
theorem pass_false {t : Int} : ∀ (cs : List S58) (r : List Int), (pass t cs r false).2 = false → (pass t cs r false).1 = r ∧ ∀ c ∈ cs, ¬ fire t r c
  | [], r, _ => ⟨rfl, fun c h => by cases h⟩
  | c :: cs, r, h => by
    rw [pass] at h ⊢
    by_cases q : fire t r c
    · rw [if_pos q, pass_true] at h
      cases h
    · rw [if_neg q] at h ⊢
      have := pass_false cs r h
      exact ⟨this.1, List.forall_mem_cons.mpr ⟨q, this.2⟩⟩
/-- How much is left to come: it gets less with each store. -/
def wt (x : Int) : Nat := if x < 0 then 2000 else x.toNat
def left (r : List Int) : Nat := (r.map wt).sum
theorem left_set (v : Int) : ∀ (r : List Int) (i : Nat), i < r.length → wt v < wt (rd r (i : Int)) → left (r.set i v) < left r
  | [], i, h, _ => absurd h (by simp)
  | x :: r, 0, _, h => by
    have h' : wt v < wt x := h
    simp only [left, List.set_cons_zero, List.map_cons, List.sum_cons]
    omega
  | x :: r, i + 1, h, g => by
    have := left_set v r i (by simpa using h) g
    simp only [left, List.set_cons_succ, List.map_cons, List.sum_cons] at this ⊢
    omega
theorem fire_left {t : Int} {r : List Int} {c : S58} (hc : GC c) (hr : r.length = 8) (h0 : 0 ≤ t) (h1 : t ≤ 1000) (h : fire t r c) : left (r.set c.f1.toNat (t + c.f4)) < left r := by
  obtain ⟨g1, g2, g3, g4, g5, g6, g7⟩ := hc
  obtain ⟨a1, a2, a3, a4, a5⟩ := h
  refine left_set _ _ _ (by omega) ?_
  rw [show ((c.f1.toNat : Nat) : Int) = c.f1 by omega]
  unfold wt
  rcases a5 with e | e
  · rw [if_neg (by omega), if_pos e]
    omega
  · rw [if_neg (by omega), if_neg (by omega)]
    omega
theorem pass_left {t : Int} {l : List S58} (hg : GP l) (h0 : 0 ≤ t) (h1 : t ≤ 1000) : ∀ (cs : List S58) (r : List Int) (f : Bool), (∀ c ∈ cs, c ∈ l) → r.length = 8 → left (pass t cs r f).1 ≤ left r ∧ (f = false → (pass t cs r f).2 = true → left (pass t cs r f).1 < left r)
  | [], r, f, _, _ => ⟨Nat.le_refl _, fun h g => by subst h; cases g⟩
  | c :: cs, r, f, hs, hr => by
    rw [pass]
    by_cases q : fire t r c
    · rw [if_pos q]
      have a := pass_left hg h0 h1 cs (r.set c.f1.toNat (t + c.f4)) true (fun d hd => hs d (List.mem_cons_of_mem _ hd)) (by rw [List.length_set]; exact hr)
      have b := fire_left (hg.1 c (hs c List.mem_cons_self)) hr h0 h1 q
      exact ⟨by omega, fun _ _ => by omega⟩
    · rw [if_neg q]
      exact pass_left hg h0 h1 cs r f (fun d hd => hs d (List.mem_cons_of_mem _ hd)) hr
/-- The program's pass is this one. -/
theorem f_l3 {l : List S58} (hg : GP l) (u t : Int) (h0 : 0 ≤ t) (h1 : t ≤ 1000) (d : Nat) : ∀ (i : Nat) (r : List Int) (f : Bool) (k : Nat), l.length - i = d → i ≤ l.length → r.length = 8 →
    spec_FloodUntil.l3 (k + 2 * d + 1) l u r t f l (l.length : Int) (i : Int) = spec_FloodUntil.l2 k l u (pass t (l.drop i) r f).1 t (pass t (l.drop i) r f).2 := by
  have hl := hg.2
  induction d with
  | zero =>
    intro i r f k hd hi hr
    rw [show k + 2 * 0 + 1 = k + 1 by omega, spec_FloodUntil.l3, if_neg (by omega), List.drop_of_length_le (by omega)]
    rfl
  | succ d ih =>
    intro i r f k hd hi hr
    have gc := hg.1 _ (rd104_mem l i (by omega))
    rw [show k + 2 * (d + 1) + 1 = (k + 2 * d + 1) + 1 + 1 by omega, spec_FloodUntil.l3, if_pos (by omega), if_pos (by omega), if_pos (by omega), drop104 l i (by omega), pass]
    generalize rd_T58 l (i : Int) = c at gc
    obtain ⟨g1, g2, g3, g4, g5, g6, g7⟩ := gc
    rw [if_pos (by omega), if_pos (by omega)]
    have no : ∀ x : Bool, ¬ fire t r c → (x = true ∨ (x = false ∧ 0 ≤ rd r c.f0 ∧ rd r c.f0 ≤ t ∧ c.f2 ≤ t ∧ t < c.f3)) → spec_FloodUntil.j5 (k + 2 * d + 1 + 1) l u r t f l (l.length : Int) (i : Int) x c.f0 c.f1 c.f2 c.f3 c.f4 = spec_FloodUntil.l2 k l u (pass t (l.drop (i + 1)) r f).1 t (pass t (l.drop (i + 1)) r f).2 := by
      intro x nf hx
      rw [spec_FloodUntil.j5]
      rcases hx with hx | ⟨hx, a1, a2, a3, a4⟩
      · rw [if_pos hx, wrap_succ (n := l.length) (by omega) (by omega), ih (i + 1) r f k (by omega) (by omega) hr]
      · have b1 : ¬ rd r c.f1 < 0 := fun h => nf ⟨a1, a2, a3, a4, Or.inl h⟩
        have b2 : ¬ t + c.f4 < rd r c.f1 := fun h => nf ⟨a1, a2, a3, a4, Or.inr h⟩
        rw [if_neg (by rw [hx]; decide), if_pos (by omega), if_pos (by omega), if_neg b1, wrap_in (x := t + c.f4) (by omega) (by omega), if_neg b2, wrap_succ (n := l.length) (by omega) (by omega), ih (i + 1) r f k (by omega) (by omega) hr]
    by_cases q : fire t r c
    · have q' := q
      obtain ⟨a1, a2, a3, a4, a5⟩ := q'
      rw [if_pos q, if_neg (by omega), if_neg (by omega), if_neg (by omega), decide_eq_false (by omega), spec_FloodUntil.j5, if_neg Bool.false_ne_true, if_pos (by omega), if_pos (by omega), wrap_in (x := t + c.f4) (by omega) (by omega), wrap_succ (n := l.length) (by omega) (by omega)]
      have go := ih (i + 1) (r.set c.f1.toNat (t + c.f4)) true k (by omega) (by omega) (by rw [List.length_set]; exact hr)
      by_cases b1 : rd r c.f1 < 0
      · rw [if_pos b1, go]
      · rw [if_neg b1, if_pos (by omega), go]
    · rw [if_neg q]
      by_cases a1 : rd r c.f0 < 0
      · rw [if_pos a1, no true q (Or.inl rfl)]
      · rw [if_neg a1]
        by_cases a2 : rd r c.f0 > t
        · rw [if_pos a2, no true q (Or.inl rfl)]
        · rw [if_neg a2]
          by_cases a3 : t < c.f2
          · rw [if_pos a3, no true q (Or.inl rfl)]
          · rw [if_neg a3]
            by_cases a4 : t ≥ c.f3
            · rw [decide_eq_true a4, no true q (Or.inl rfl)]
            · rw [decide_eq_false a4, no false q (Or.inr ⟨rfl, by omega, by omega, by omega, by omega⟩)]
/-- What stands before the moment t: T are the earliest times. -/
structure Fl (l : List S58) (T : List Int) (src at' t : Int) (r : List Int) : Prop where
  hr : r.length = 8
  sound : ∀ n, 0 ≤ n → n < 8 → 0 ≤ rd r n → 0 ≤ rd T n ∧ rd T n ≤ rd r n
  hs : 0 ≤ rd r src ∧ rd r src ≤ at'
  clo : ∀ s, at' ≤ s → s < t → ∀ c ∈ l, ¬ fire s r c
theorem fl_fire {l : List S58} (hg : GP l) {T : List Int} (hT : ∀ c ∈ l, cand T c = none) {src at' t : Int} (hsrc : 0 ≤ src ∧ src < 8) (h0 : 0 ≤ at') (ht : at' ≤ t) {r : List Int} (h : Fl l T src at' t r) {c : S58} (hc : c ∈ l) (q : fire t r c) : Fl l T src at' t (r.set c.f1.toNat (t + c.f4)) := by
  have gc := hg.1 c hc
  have no := hT c hc
  obtain ⟨g1, g2, g3, g4, g5, g6, g7⟩ := gc
  obtain ⟨a1, a2, a3, a4, a5⟩ := q
  have e1 : ((c.f1.toNat : Nat) : Int) = c.f1 := by omega
  have hr := h.hr
  have R : ∀ n, 0 ≤ n → rd (r.set c.f1.toNat (t + c.f4)) n = if n = c.f1 then t + c.f4 else rd r n := fun n hn => by rw [rd_set _ _ _ _ (by omega) hn, e1]
  have s0 := h.sound c.f0 g1.1 g1.2 a1
  have key : 0 ≤ rd T c.f1 ∧ rd T c.f1 ≤ t + c.f4 := by
    have ov : over c (rd T c.f0) ≤ t + c.f4 := by
      unfold over
      split <;> omega
    unfold cand at no
    rw [if_neg (by omega), if_neg (by omega)] at no
    by_cases f : 0 ≤ rd T c.f1 ∧ rd T c.f1 ≤ over c (rd T c.f0)
    · omega
    · rw [if_neg f] at no
      cases no
  refine ⟨by rw [List.length_set]; exact hr, fun n n0 n8 hn => ?_, ?_, fun s s0 s1 d hd hf => ?_⟩
  · rw [R n n0] at hn ⊢
    by_cases e : n = c.f1
    · rw [if_pos e, e]
      exact key
    · rw [if_neg e] at hn ⊢
      exact h.sound n n0 n8 hn
  · rw [R src hsrc.1]
    have := h.hs
    by_cases e : src = c.f1
    · rw [if_pos e]
      rw [← e] at a5
      omega
    · rw [if_neg e]
      exact this
  · have gd := hg.1 d hd
    obtain ⟨d1, d2, _⟩ := gd
    refine h.clo s s0 s1 d hd ?_
    obtain ⟨b1, b2, b3, b4, b5⟩ := hf
    rw [R _ d1.1] at b1 b2
    rw [R _ d2.1] at b5
    have e : ¬ d.f0 = c.f1 := fun e => by rw [if_pos e] at b2; omega
    rw [if_neg e] at b1 b2
    refine ⟨b1, b2, b3, b4, ?_⟩
    by_cases e2 : d.f1 = c.f1
    · rw [if_pos e2] at b5
      rw [e2]
      omega
    · rw [if_neg e2] at b5
      exact b5
/-- A moment: passes until nothing changes. -/
theorem f_l2 {l : List S58} (hg : GP l) {T : List Int} (hT : ∀ c ∈ l, cand T c = none) {src at' t : Int} (hsrc : 0 ≤ src ∧ src < 8) (h0 : 0 ≤ at') (ht : at' ≤ t) (ht1 : t ≤ 1000) (u : Int) (m : Nat) : ∀ r, left r ≤ m → Fl l T src at' t r →
    ∃ (r' : List Int) (B : Nat), Fl l T src at' (t + 1) r' ∧ ∀ k, spec_FloodUntil.l2 (k + B) l u r t true = spec_FloodUntil.l1 k l u r' (t + 1) := by
  have hl := hg.2
  induction m with
  | zero =>
    intro r hm h
    have p := pass_left hg (by omega) ht1 l r false (fun _ h => h) h.hr
    have e : (pass t l r false).2 = false := Classical.byContradiction fun z => by
      have := p.2 rfl (by simpa using z)
      omega
    have pf := pass_false l r e
    refine ⟨r, 2 * l.length + 1 + 1 + 1, ⟨h.hr, h.sound, h.hs, fun s s0 s1 c hc => ?_⟩, fun k => ?_⟩
    · by_cases q : s < t
      · exact h.clo s s0 q c hc
      · rw [show s = t by omega]
        exact pf.2 c hc
    · rw [show k + (2 * l.length + 1 + 1 + 1) = (k + 1 + 2 * l.length + 1) + 1 by omega, spec_FloodUntil.l2, if_pos rfl]
      have := f_l3 hg u t (by omega) ht1 l.length 0 r false (k + 1) (by omega) (by omega) h.hr
      rw [show ((0 : Nat) : Int) = 0 from rfl, List.drop_zero] at this
      rw [this, e, pf.1, spec_FloodUntil.l2, if_neg Bool.false_ne_true, wrap_in (x := t + 1) (by omega) (by omega)]
  | succ m ih =>
    intro r hm h
    have p := pass_left hg (by omega) ht1 l r false (fun _ h => h) h.hr
    have st : ∀ k, spec_FloodUntil.l2 (k + 2 * l.length + 1 + 1) l u r t true = spec_FloodUntil.l2 k l u (pass t l r false).1 t (pass t l r false).2 := fun k => by
      rw [spec_FloodUntil.l2, if_pos rfl]
      have := f_l3 hg u t (by omega) ht1 l.length 0 r false k (by omega) (by omega) h.hr
      rw [show ((0 : Nat) : Int) = 0 from rfl, List.drop_zero] at this
      exact this
    by_cases e : (pass t l r false).2 = true
    · have pl := p.2 rfl e
      have fl : Fl l T src at' t (pass t l r false).1 := pass_ind (l := l) (Q := Fl l T src at' t) (fun r c hc hQ q => fl_fire hg hT hsrc h0 ht hQ hc q) l r false (fun _ h => h) h
      obtain ⟨r', B, h1, h2⟩ := ih _ (by omega) fl
      refine ⟨r', B + 2 * l.length + 1 + 1, h1, fun k => ?_⟩
      rw [show k + (B + 2 * l.length + 1 + 1) = (k + B) + 2 * l.length + 1 + 1 by omega, st, e, h2]
    · have e' : (pass t l r false).2 = false := by simpa using e
      have pf := pass_false l r e'
      refine ⟨r, 2 * l.length + 1 + 1 + 1, ⟨h.hr, h.sound, h.hs, fun s s0 s1 c hc => ?_⟩, fun k => ?_⟩
      · by_cases q : s < t
        · exact h.clo s s0 q c hc
        · rw [show s = t by omega]
          exact pf.2 c hc
      · rw [show k + (2 * l.length + 1 + 1 + 1) = (k + 1) + 2 * l.length + 1 + 1 by omega, st, e', pf.1, spec_FloodUntil.l2, if_neg Bool.false_ne_true, wrap_in (x := t + 1) (by omega) (by omega)]
/-- All moments. -/
theorem f_l1 {l : List S58} (hg : GP l) {T : List Int} (hT : ∀ c ∈ l, cand T c = none) {src at' : Int} (hsrc : 0 ≤ src ∧ src < 8) (h0 : 0 ≤ at') (u : Int) (hu : u ≤ 1000) (d : Nat) : ∀ (t : Int) (r : List Int), (u + 1 - t).toNat = d → at' ≤ t → Fl l T src at' t r →
    ∃ (r' : List Int) (B : Nat), Fl l T src at' (u + 1) r' ∧ ∀ k, spec_FloodUntil.l1 (k + B) l u r t = spec_FloodUntil.l4 k u [] r' (r'.length : Int) 0 := by
  induction d with
  | zero =>
    intro t r hd ht h
    refine ⟨r, 1, ⟨h.hr, h.sound, h.hs, fun s s0 s1 c hc => h.clo s s0 (by omega) c hc⟩, fun k => ?_⟩
    rw [spec_FloodUntil.l1, if_neg (by omega)]
  | succ d ih =>
    intro t r hd ht h
    obtain ⟨r1, B1, h1, e1⟩ := f_l2 hg hT hsrc h0 ht (by omega) u (left r) r (Nat.le_refl _) h
    obtain ⟨r2, B2, h2, e2⟩ := ih (t + 1) r1 (by omega) (by omega) h1
    refine ⟨r2, B2 + B1 + 1, h2, fun k => ?_⟩
    rw [show k + (B2 + B1 + 1) = (k + B2 + B1) + 1 by omega, spec_FloodUntil.l1, if_pos (by omega), e1, e2]
/-- Those below j that are there by u. -/
def sel (x : List Int) (u : Int) : Nat → List Int
  | 0 => []
  | j + 1 => sel x u j ++ (if 0 ≤ rd x (j : Int) ∧ rd x (j : Int) ≤ u then [(j : Int)] else [])
theorem sel_len (x : List Int) (u : Int) : ∀ j, (sel x u j).length ≤ j
  | 0 => Nat.le_refl _
  | j + 1 => by
    have := sel_len x u j
    rw [sel, List.length_append]
    split <;> simp <;> omega
theorem f_l4 (x : List Int) (hn : x.length = 8) (u : Int) (d : Nat) : ∀ (i k : Nat), x.length - i = d → i ≤ x.length → spec_FloodUntil.l4 (k + d + 1) u (sel x u i) x (x.length : Int) (i : Int) = some (sel x u 8, true) := by
  induction d with
  | zero =>
    intro i k hd hi
    rw [spec_FloodUntil.l4, if_neg (by omega), show i = 8 by omega]
  | succ d ih =>
    intro i k hd hi
    have sl := sel_len x u i
    have := ih (i + 1) k (by omega) (by omega)
    rw [sel] at this
    rw [show k + (d + 1) + 1 = (k + d + 1) + 1 by omega, spec_FloodUntil.l4, if_pos (by omega), if_pos (by omega), if_pos (by omega), wrap_succ (n := x.length) (by omega) (by omega)]
    by_cases c1 : rd x (i : Int) ≥ 0
    · rw [if_pos c1]
      by_cases c2 : rd x (i : Int) ≤ u
      · rw [if_pos ⟨c1, c2⟩] at this
        rw [if_pos c2, if_pos (by omega)]
        exact this
      · rw [if_neg (fun h => c2 h.2), List.append_nil] at this
        rw [if_neg c2]
        exact this
    · rw [if_neg (fun h => c1 h.1), List.append_nil] at this
      rw [if_neg c1]
      exact this
theorem f_l0 {l : List S58} {src at' u : Int} (hs : 0 ≤ src ∧ src < 8) (d : Nat) : ∀ i k : Nat, 8 - i = d → i ≤ 8 → spec_FloodUntil.l0 (k + d + 1) l src at' u (List.replicate i (-1)) (i : Int) = spec_FloodUntil.l1 k l u (r0 src at') at' := by
  induction d with
  | zero =>
    intro i k hd hi
    rw [spec_FloodUntil.l0, if_neg (by omega), if_pos hs.1, if_pos (by rw [List.length_replicate]; omega), show i = 8 by omega]
    rfl
  | succ d ih =>
    intro i k hd hi
    rw [show k + (d + 1) + 1 = (k + d + 1) + 1 by omega, spec_FloodUntil.l0, if_pos (by omega), if_pos (by rw [List.length_replicate]; omega), wrap_succ (n := 8) (by omega) (by omega), show List.replicate i (-1 : Int) ++ [-1] = List.replicate (i + 1) (-1) from by rw [List.replicate_succ'], ih (i + 1) k (by omega) (by omega)]
theorem sel_same (x y : List Int) (u : Int) : ∀ j, (∀ m : Nat, m < j → ((0 ≤ rd x (m : Int) ∧ rd x (m : Int) ≤ u) ↔ (0 ≤ rd y (m : Int) ∧ rd y (m : Int) ≤ u))) → sel x u j = sel y u j
  | 0, _ => rfl
  | j + 1, h => by
    rw [sel, sel, sel_same x y u j fun m hm => h m (by omega)]
    by_cases c : 0 ≤ rd x (j : Int) ∧ rd x (j : Int) ≤ u
    · rw [if_pos c, if_pos ((h j (by omega)).1 c)]
    · rw [if_neg c, if_neg (fun z => c ((h j (by omega)).2 z))]
/-- Nobody is there before the start. -/
theorem pth_from {l : List S58} {src at' : Int} {T V : List Int} (hg : GP l) (hat : 0 ≤ at') (ha : rd T src = at') {n : Int} {p : List Int} (hp : Pth l src T V n p) : at' ≤ rd T n := by
  induction hp with
  | nil => omega
  | @snoc n m p i q0 q1 q2 q3 q4 q5 q6 q7 q8 q9 q10 q11 ih =>
    have gc := hg.1 _ (rd104_mem l i q1)
    have := over_ge _ gc (rd T n) q7 (by omega)
    rw [q11]
    omega
/-- All who are there in time are marked so. -/
theorem fl_all {l : List S58} (hg : GP l) {T V : List Int} {src at' u : Int} (hat : 0 ≤ at') (ha : rd T src = at') {r : List Int} (h : Fl l T src at' (u + 1) r) {n : Int} {p : List Int} (hp : Pth l src T V n p) (hu : rd T n ≤ u) : 0 ≤ rd r n ∧ rd r n ≤ rd T n := by
  induction hp with
  | nil =>
    have := h.hs
    omega
  | @snoc n m p i q0 q1 q2 q3 q4 q5 q6 q7 q8 q9 q10 q11 ih =>
    have mem := rd104_mem l i q1
    have gc := hg.1 _ mem
    generalize rd_T58 l (i : Int) = c at *
    obtain ⟨g1, g2, g3, g4, g5, g6, g7⟩ := gc
    have src0 : at' ≤ rd T n := pth_from hg hat ha q0
    have ov : over c (rd T n) = (if rd T n < c.f2 then c.f2 else rd T n) + c.f4 := rfl
    have i1 := ih (by
      rw [q11, ov] at hu
      split at hu <;> omega)
    have no := h.clo (if rd T n < c.f2 then c.f2 else rd T n) (by split <;> omega) (by rw [q11, ov] at hu; split at hu <;> split <;> omega) c mem
    rw [q11, ov]
    have f0 : rd r c.f0 = rd r n := by rw [q2]
    have f1 : rd r c.f1 = rd r m := by rw [q3]
    refine Classical.byContradiction fun z => no ⟨by omega, ?_, ?_, ?_, ?_⟩
    · rw [f0]; split <;> omega
    · split <;> omega
    · split <;> omega
    · rw [f1]
      omega

/-! The program's own way: all numbers, those struck out that are not there in time. -/
/-- All numbers below j. -/
def nums : Nat → List Int
  | 0 => []
  | j + 1 => nums j ++ [(j : Int)]
theorem nums_len : ∀ j, (nums j).length = j
  | 0 => rfl
  | j + 1 => by rw [nums, List.length_append, nums_len j]; rfl
theorem rd_nums (j : Nat) : ∀ n, j < n → rd (nums n) (j : Int) = (j : Int)
  | 0, h => absurd h (by omega)
  | n + 1, h => by
    have l := nums_len n
    unfold rd
    rw [nums, show ((j : Int)).toNat = j from rfl, List.getD_eq_getElem?_getD, List.getElem?_append]
    by_cases c : j < n
    · rw [if_pos (by omega), ← List.getD_eq_getElem?_getD]
      exact rd_nums j n c
    · rw [if_neg (by omega), show j - (nums n).length = 0 by omega, show j = n by omega]
      rfl
theorem num_l0 (n : Nat) (hn : n ≤ 1048576) (d : Nat) : ∀ (k i : Nat), n - i = d → i ≤ n → d < k → impl_numbered.l0 k (nums i) (n : Int) (i : Int) = some (nums n) := by
  induction d with
  | zero =>
    intro k i hd hi hk
    obtain ⟨k, rfl⟩ : ∃ m, k = m + 1 := ⟨k - 1, by omega⟩
    rw [impl_numbered.l0, if_neg (by omega), show i = n by omega]
  | succ d ih =>
    intro k i hd hi hk
    obtain ⟨k, rfl⟩ : ∃ m, k = m + 1 := ⟨k - 1, by omega⟩
    have sl := nums_len i
    have := ih k (i + 1) (by omega) (by omega) (by omega)
    rw [nums] at this
    rw [impl_numbered.l0, if_pos (by omega), if_pos (by omega), wrap_succ (n := n) (by omega) (by omega)]
    exact this
theorem clit_is (x : List Int) (u : Int) (j : Nat) (hj : j < x.length) : impl_FloodUntil_lit1_captured.f (j : Int) x u = some (!decide (0 ≤ rd x (j : Int) ∧ rd x (j : Int) ≤ u), u) := by
  unfold impl_FloodUntil_lit1_captured.f
  rw [if_pos (by omega), if_pos (by omega), iin_is]
  rfl
theorem cidx_l0 (x : List Int) (u : Int) (hn : x.length ≤ 1048576) (d : Nat) : ∀ i : Nat, x.length - i = d → i ≤ x.length → sel x u i = nums i →
    ∃ r : Int, ((r = -1 ∧ sel x u x.length = nums x.length) ∨ ∃ m : Nat, r = (m : Int) ∧ m < x.length ∧ ¬ (0 ≤ rd x (m : Int) ∧ rd x (m : Int) ≤ u) ∧ sel x u m = nums m) ∧
      ∀ k, d < k → slices_IndexFunc_int_int_impl_FloodUntil_lit1.l0 k (nums x.length) (x.length : Int) (i : Int) x u = some (r, u) := by
  have nl := nums_len x.length
  induction d with
  | zero =>
    intro i hd hi hs
    have e : i = x.length := by omega
    refine ⟨-1, Or.inl ⟨rfl, by rw [← e]; exact hs⟩, fun k hk => ?_⟩
    obtain ⟨k, rfl⟩ : ∃ m, k = m + 1 := ⟨k - 1, by omega⟩
    rw [slices_IndexFunc_int_int_impl_FloodUntil_lit1.l0, if_neg (by omega)]
  | succ d ih =>
    intro i hd hi hs
    by_cases q : 0 ≤ rd x (i : Int) ∧ rd x (i : Int) ≤ u
    · obtain ⟨r, hr, e⟩ := ih (i + 1) (by omega) (by omega) (by rw [sel, nums, hs, if_pos q])
      refine ⟨r, hr, fun k hk => ?_⟩
      obtain ⟨k, rfl⟩ : ∃ m, k = m + 1 := ⟨k - 1, by omega⟩
      rw [slices_IndexFunc_int_int_impl_FloodUntil_lit1.l0, if_pos (by omega), if_pos (by omega), if_pos (by omega), rd_nums i x.length (by omega), clit_is x u i (by omega), Option.bind_some]
      dsimp only
      rw [decide_eq_true q, if_neg (by decide), wrap_succ (n := x.length) (by omega) (by omega)]
      exact e k (by omega)
    · refine ⟨(i : Int), Or.inr ⟨i, rfl, by omega, q, hs⟩, fun k hk => ?_⟩
      obtain ⟨k, rfl⟩ : ∃ m, k = m + 1 := ⟨k - 1, by omega⟩
      rw [slices_IndexFunc_int_int_impl_FloodUntil_lit1.l0, if_pos (by omega), if_pos (by omega), if_pos (by omega), rd_nums i x.length (by omega), clit_is x u i (by omega), Option.bind_some]
      dsimp only
      rw [decide_eq_false q, if_pos (by decide)]
theorem putL_take (zs : List Int) : ∀ (xs : List Int) (o i : Nat), i ≤ o → (putL xs o zs).take i = xs.take i := by
  induction zs with
  | nil => intro xs o i h; rfl
  | cons z zs ih =>
    intro xs o i h
    rw [putL, ih _ _ _ (by omega), List.take_set_of_le h]
theorem cdel_l0 (x : List Int) (u : Int) (hn : x.length ≤ 1048576) (h0 : 0 < x.length) (d : Nat) : ∀ (j : Nat) (y : List Int), x.length - j = d → j ≤ x.length → y.length = x.length → (sel x u j).length < j → y.take (sel x u j).length = sel x u j → (∀ q : Nat, j ≤ q → q < x.length → rd y (q : Int) = (q : Int)) →
    ∀ k, d < k → slices_DeleteFunc_int_int_impl_FloodUntil_lit1.l0 k y ((sel x u j).length : Int) (j : Int) x u = some (sel x u x.length, u) := by
  induction d with
  | zero =>
    intro j y hd hj hy hl ht hr k hk
    obtain ⟨k, rfl⟩ : ∃ m, k = m + 1 := ⟨k - 1, by omega⟩
    have e : j = x.length := by omega
    rw [slices_DeleteFunc_int_int_impl_FloodUntil_lit1.l0, if_neg (by omega), if_pos (by omega), if_pos (by omega), if_pos (by omega), putL_take _ _ _ _ (Nat.le_refl _), show (((sel x u j).length : Int)).toNat = (sel x u j).length from rfl, ht, e]
  | succ d ih =>
    intro j y hd hj hy hl ht hr k hk
    obtain ⟨k, rfl⟩ : ∃ m, k = m + 1 := ⟨k - 1, by omega⟩
    rw [slices_DeleteFunc_int_int_impl_FloodUntil_lit1.l0, if_pos (by omega), if_pos (by omega), hr j (Nat.le_refl _) (by omega), clit_is x u j (by omega), Option.bind_some, wrap_succ (n := x.length) (by omega) (by omega)]
    dsimp only
    by_cases q : 0 ≤ rd x (j : Int) ∧ rd x (j : Int) ≤ u
    · have e : sel x u (j + 1) = sel x u j ++ [(j : Int)] := by rw [sel, if_pos q]
      have el : (sel x u (j + 1)).length = (sel x u j).length + 1 := by rw [e, List.length_append]; rfl
      rw [decide_eq_true q, if_neg (by decide), if_pos (by omega), if_pos (by omega), wrap_succ (n := x.length) (by omega) (by omega), show (((sel x u j).length : Int)).toNat = (sel x u j).length from rfl]
      have := ih (j + 1) (y.set (sel x u j).length (j : Int)) (by omega) (by omega) (by rw [List.length_set]; exact hy) (by rw [el]; omega) (by
        rw [el, e, List.take_add_one, List.take_set_of_le (Nat.le_refl _), ht, List.getElem?_set_self (by omega)]
        rfl) (fun m h1 h2 => by
        have := hr m (by omega) h2
        unfold rd at this ⊢
        rw [List.getD_eq_getElem?_getD] at this ⊢
        rw [show ((m : Int)).toNat = m from rfl] at this ⊢
        rw [List.getElem?_set_ne (by omega)]
        exact this) k (by omega)
      rw [el] at this
      exact this
    · have e : sel x u (j + 1) = sel x u j := by rw [sel, if_neg q, List.append_nil]
      rw [decide_eq_false q, if_pos (by decide)]
      have := ih (j + 1) y (by omega) (by omega) hy (by rw [e]; omega) (by rw [e]; exact ht) (fun m h1 h2 => hr m (by omega) h2) k (by omega)
      rw [e] at this
      exact this
theorem cdel_is (x : List Int) (u : Int) (hn : x.length ≤ 1048576) (h0 : 0 < x.length) (k : Nat) (hk : x.length < k) : slices_DeleteFunc_int_int_impl_FloodUntil_lit1.f k (nums x.length) x u = some (sel x u x.length, u) := by
  unfold slices_DeleteFunc_int_int_impl_FloodUntil_lit1.f slices_IndexFunc_int_int_impl_FloodUntil_lit1.f
  obtain ⟨r, hr, e⟩ := cidx_l0 x u hn x.length 0 (by omega) (by omega) rfl
  have e0 := e k (by omega)
  rw [show ((0 : Nat) : Int) = 0 from rfl] at e0
  rw [nums_len, e0, Option.bind_some]
  dsimp only
  rcases hr with ⟨r1, r2⟩ | ⟨m, r1, r2, r3, r4⟩
  · rw [if_pos r1, r2]
  · have ml : (sel x u m).length = m := by rw [r4, nums_len]
    have e1 : sel x u (m + 1) = sel x u m := by rw [sel, if_neg r3, List.append_nil]
    rw [if_neg (by omega), r1, wrap_succ (n := x.length) (by omega) (by omega)]
    have := cdel_l0 x u hn h0 (x.length - (m + 1)) (m + 1) (nums x.length) rfl (by omega) (nums_len _) (by rw [e1, ml]; omega) (by
      rw [e1, ml, r4]
      have tk : ∀ n, m ≤ n → (nums n).take m = nums m := by
        intro n hmn
        induction n with
        | zero => rw [show m = 0 by omega]; rfl
        | succ n ih =>
          by_cases z : m = n + 1
          · rw [z]
            exact List.take_of_length_le (by rw [nums_len]; omega)
          · rw [nums, List.take_append_of_le_length (by rw [nums_len]; omega)]
            exact ih (by omega)
      exact tk _ (by omega)) (fun q h1 h2 => rd_nums q _ h2) k (by omega)
    rw [e1, ml] at this
    exact this
/-! Both tell the same. -/
theorem flood_is (l : List S58) (hl : l.length ≤ 1048576) (a1 a2 a3 : Int) : ∃ (R : List Int × Bool) (B : Nat), R.1.length ≤ 8 ∧ (R.2 = true → GP l ∧ (0 ≤ a1 ∧ a1 < 8) ∧ (0 ≤ a2 ∧ a2 ≤ 1000) ∧ (0 ≤ a3 ∧ a3 ≤ 1000) ∧ R.1 = sel (found l a1 a2).1 a3 8) ∧ (R.2 = false → R.1 = []) ∧ ∀ k, B ≤ k → spec_FloodUntil.f k l a1 a2 a3 = some R ∧ impl_FloodUntil.f k l a1 a2 a3 = some R := by
  by_cases hg : GP l ∧ (0 ≤ a1 ∧ a1 < 8) ∧ (0 ≤ a2 ∧ a2 ≤ 1000) ∧ (0 ≤ a3 ∧ a3 ≤ 1000)
  · obtain ⟨hg, hs, ha, hu⟩ := hg
    have i0 := inv0 hg hs ha
    have ru := r0_unset a1 a2 hs ha.1
    obtain ⟨last, iv⟩ := srch_inv hg ha.1 7 (r0 a1 a2) v0 a2 i0
    have hT := srch_end hg ha.1 7 (r0 a1 a2) v0 a2 i0 (by omega)
    have e0 : (srch l 7 (r0 a1 a2) v0) = found l a1 a2 := rfl
    rw [e0] at iv hT
    have fl0 : Fl l (found l a1 a2).1 a1 a2 a2 (r0 a1 a2) := by
      refine ⟨i0.hr, fun n n0 n8 hn => ?_, ?_, fun s s0 s1 => absurd s1 (by omega)⟩
      · rw [r0_rd a1 a2 hs n n0 n8] at hn ⊢
        by_cases q : n = a1
        · rw [if_pos q, q, iv.hs]
          omega
        · rw [if_neg q] at hn
          omega
      · rw [r0_rd a1 a2 hs a1 hs.1 hs.2, if_pos rfl]
        omega
    obtain ⟨r', B, h1, h2⟩ := f_l1 hg hT hs ha.1 a3 hu.2 (a3 + 1 - a2).toNat a2 (r0 a1 a2) rfl (Int.le_refl _) fl0
    have same : sel r' a3 8 = sel (found l a1 a2).1 a3 8 := by
      refine sel_same _ _ _ _ fun m hm => ⟨fun h => ?_, fun h => ?_⟩
      · have := h1.sound (m : Int) (by omega) (by omega) h.1
        omega
      · obtain ⟨p, p1, _⟩ := iv.hp (m : Int) (by omega) (by omega) h.1
        have := fl_all hg ha.1 iv.hs h1 p1 h.2
        omega
    refine ⟨(sel (found l a1 a2).1 a3 8, true), B + 1048700, sel_len _ _ _, fun _ => ⟨hg, hs, ha, hu, rfl⟩, fun h => (by cases h), fun k hk => ⟨?_, ?_⟩⟩
    · unfold spec_FloodUntil.f
      rw [splan_is l hl k (by omega), decide_eq_true hg, Option.bind_some, if_pos rfl, snode_is, decide_eq_true hs, Option.bind_some, if_pos rfl, swhen_is, decide_eq_true ha, Option.bind_some, if_pos rfl, swhen_is, decide_eq_true hu, Option.bind_some]
      obtain ⟨k, rfl⟩ : ∃ m, k = (((m + 8 + 1) + B) + 8 + 1) + 1 := ⟨k - B - 19, by omega⟩
      have b := f_l0 (l := l) (u := a3) (at' := a2) hs 8 0 ((k + 8 + 1) + B) (by omega) (by omega)
      rw [show ((0 : Nat) : Int) = 0 from rfl, show List.replicate 0 (-1 : Int) = [] from rfl] at b
      have c := f_l4 r' h1.hr a3 8 0 k (by have := h1.hr; omega) (by omega)
      rw [show ((0 : Nat) : Int) = 0 from rfl] at c
      rw [spec_FloodUntil.j0, if_neg (by decide), b, h2, ← same]
      exact c
    · unfold impl_FloodUntil.f
      rw [iplan_is l hl k (by omega), decide_eq_true hg, Option.bind_some, if_pos rfl, inode_is, decide_eq_true hs, Option.bind_some, if_pos rfl, iwhen_is, decide_eq_true ha, Option.bind_some, if_pos rfl, iwhen_is, decide_eq_true hu, Option.bind_some]
      obtain ⟨k, rfl⟩ : ∃ m, k = m + 1 := ⟨k - 1, by omega⟩
      have n := num_l0 8 (by omega) 8 k 0 (by omega) (by omega) (by omega)
      have n' : impl_numbered.f k 8 = some (nums 8) := n
      have dl := cdel_is (found l a1 a2).1 a3 (by rw [iv.hr]; omega) (by rw [iv.hr]; omega) k (by rw [iv.hr]; omega)
      rw [iv.hr] at dl
      rw [impl_FloodUntil.j0, if_neg (by decide), ireach_is hg hs ha k (by omega), Option.bind_some, n', Option.bind_some, dl]
      rfl
  · refine ⟨(([] : List Int), false), 1048700, by simp, fun h => (by cases h), fun _ => rfl, fun k hk => ?_⟩
    have no : ∀ k, 1 ≤ k → spec_FloodUntil.j0 k l a1 a2 a3 true = some (([] : List Int), false) ∧ impl_FloodUntil.j0 k l a1 a2 a3 true = some (([] : List Int), false) := by
      intro k hk
      obtain ⟨k, rfl⟩ : ∃ m, k = m + 1 := ⟨k - 1, by omega⟩
      rw [spec_FloodUntil.j0, impl_FloodUntil.j0, if_pos rfl, if_pos rfl]
      exact ⟨rfl, rfl⟩
    have nk := no k (by omega)
    unfold spec_FloodUntil.f impl_FloodUntil.f
    rw [splan_is l hl k (by omega), iplan_is l hl k (by omega), snode_is, inode_is, swhen_is, swhen_is, iwhen_is, iwhen_is]
    simp only [Option.bind_some]
    by_cases c1 : GP l
    · rw [decide_eq_true c1, if_pos rfl, if_pos rfl]
      by_cases c2 : 0 ≤ a1 ∧ a1 < 8
      · rw [decide_eq_true c2, if_pos rfl, if_pos rfl]
        by_cases c3 : 0 ≤ a2 ∧ a2 ≤ 1000
        · rw [decide_eq_true c3, if_pos rfl, if_pos rfl]
          have c4 : ¬ (0 ≤ a3 ∧ a3 ≤ 1000) := fun h => hg ⟨c1, c2, c3, h⟩
          rw [decide_eq_false c4]
          exact nk
        · rw [decide_eq_false c3, if_neg Bool.false_ne_true, if_neg Bool.false_ne_true]
          exact nk
      · rw [decide_eq_false c2, if_neg Bool.false_ne_true, if_neg Bool.false_ne_true]
        exact nk
    · rw [decide_eq_false c1, if_neg Bool.false_ne_true, if_neg Bool.false_ne_true]
      exact nk

theorem wf_u8 {x : Int} (h : (Lit.int .u8 x).wf = true) : 0 ≤ x ∧ x ≤ 255 := by
  simp [Lit.wf, IntKind.min, IntKind.max, IntKind.signed, IntKind.bits] at h
  omega
theorem wf_i64 {x : Int} (h : (Lit.int .i64 x).wf = true) : -9223372036854775808 ≤ x ∧ x ≤ 9223372036854775807 := by
  simp [Lit.wf, IntKind.min, IntKind.max, IntKind.signed, IntKind.bits] at h
  omega
theorem rd_mem (l : List Int) (i : Int) (h0 : 0 ≤ i) (h1 : i < (l.length : Int)) : rd l i ∈ l := by
  unfold rd
  have h : i.toNat < l.length := by omega
  rw [List.getD_eq_getElem?_getD, List.getElem?_eq_getElem h]
  exact List.getElem_mem h
theorem wrap_u64 (n : Int) : IntKind.u64.wrap n = n % 18446744073709551616 := by simp [IntKind.wrap, IntKind.bits, IntKind.signed]
theorem and255 (x : Int) (h0 : 0 ≤ x) (h1 : x < 18446744073709551616) : Go.bits .and .u64 x 255 = x % 256 :=
  bits_mask .u64 64 (by decide) (fun n a b => by rw [wrap_u64]; omega) 8 (by decide) x h0 h1
theorem next_ok (l : List Int) (hl : ∀ x ∈ l, (Lit.int .u8 x).wf = true) (at_ u : Int) (h0 : 0 ≤ at_) (h1 : at_ ≤ 4611686018427387904) :
    ∃ r u', spec_l1Cur_next.f l at_ u = some (r, at_ + 1, u') ∧ 0 ≤ r ∧ r ≤ 255 := by
  unfold spec_l1Cur_next.f
  have ew : wrap64 (at_ + 1) = at_ + 1 := wrap_in (by omega) (by omega)
  have hb : ∀ X : Int, 0 ≤ wrap64 (Go.bits .and .u64 ((IntKind.u64.wrap X) / 1099511627776) 255) ∧ wrap64 (Go.bits .and .u64 ((IntKind.u64.wrap X) / 1099511627776) 255) ≤ 255 := fun X => by
    rw [and255 _ (by rw [wrap_u64]; omega) (by rw [wrap_u64]; omega), wrap_in (by omega) (by omega)]
    omega
  by_cases c1 : at_ < (l.length : Int)
  · have hr := wf_u8 (hl _ (rd_mem l at_ h0 c1))
    rw [if_pos c1, if_pos h0, ew]
    by_cases c2 : at_ + 1 ≤ (l.length : Int)
    · rw [if_pos c2]
      exact ⟨_, _, rfl, by rw [wrap_in (by omega) (by omega)]; omega, by rw [wrap_in (by omega) (by omega)]; omega⟩
    · rw [if_neg c2]
      exact ⟨_, _, rfl, (hb _).1, (hb _).2⟩
  · rw [if_neg c1, ew]
    by_cases c2 : at_ + 1 ≤ (l.length : Int)
    · rw [if_pos c2]
      exact ⟨_, _, rfl, by omega, by omega⟩
    · rw [if_neg c2]
      exact ⟨_, _, rfl, (hb _).1, (hb _).2⟩
/-- What is drawn: a number below n (0 for n up to 1); the place goes on by two at the most. -/
theorem pick_ok (l : List Int) (hl : ∀ x ∈ l, (Lit.int .u8 x).wf = true) (at_ u n : Int) (h0 : 0 ≤ at_) (h1 : at_ ≤ 2305843009213693952) :
    ∃ r at' u', spec_l1Cur_pick.f l at_ u n = some (r, at', u') ∧ 0 ≤ r ∧ (r < n ∨ r = 0) ∧ r ≤ 65535 ∧ at_ ≤ at' ∧ at' ≤ at_ + 2 := by
  unfold spec_l1Cur_pick.f
  by_cases c1 : n ≤ 1
  · rw [if_pos c1]
    exact ⟨_, _, _, rfl, by omega, by omega, by omega, by omega, by omega⟩
  · rw [if_neg c1]
    obtain ⟨r, u', e1, r0, r1⟩ := next_ok l hl at_ u h0 (by omega)
    rw [e1]
    simp only [Option.bind_some]
    have tm : ∀ x : Int, 0 ≤ x → x ≤ 65535 → 0 ≤ Int.tmod x n ∧ Int.tmod x n < n ∧ Int.tmod x n ≤ 65535 := fun x hx hx2 => by
      rw [Int.tmod_eq_emod_of_nonneg hx]
      have a := Int.emod_nonneg x (show n ≠ 0 by omega)
      have b := Int.emod_lt_of_pos x (show 0 < n by omega)
      have c : x % n ≤ x := by
        by_cases hxn : x < n
        · rw [Int.emod_eq_of_lt hx hxn]; exact Int.le_refl _
        · omega
      omega
    by_cases c2 : n > 200
    · rw [if_pos c2]
      obtain ⟨r2, u2, e2, s0, s1⟩ := next_ok l hl (at_ + 1) u' (by omega) (by omega)
      rw [e2]
      simp only [Option.bind_some]
      rw [if_neg (show ¬ n = 0 by omega)]
      have ew : wrap64 ((wrap64 (r * 256)) + r2) = r * 256 + r2 := by rw [wrap_in (x := r * 256) (by omega) (by omega), wrap_in (by omega) (by omega)]
      rw [ew]
      have := tm (r * 256 + r2) (by omega) (by omega)
      exact ⟨_, _, _, rfl, by omega, by omega, by omega, by omega, by omega⟩
    · rw [if_neg c2, if_neg (show ¬ n = 0 by omega)]
      have := tm r (by omega) (by omega)
      exact ⟨_, _, _, rfl, by omega, by omega, by omega, by omega, by omega⟩
theorem one_ok (l : List Int) (hl : ∀ x ∈ l, (Lit.int .u8 x).wf = true) (at_ u n : Int) (h0 : 0 ≤ at_) (h1 : at_ ≤ 2305843009213693952) :
    ∃ b at' u', spec_l1Cur_one.f l at_ u n = some (b, at', u') ∧ at_ ≤ at' ∧ at' ≤ at_ + 2 := by
  obtain ⟨r, a, u', e, _, _, _, g1, g2⟩ := pick_ok l hl at_ u n h0 h1
  unfold spec_l1Cur_one.f
  rw [e]
  exact ⟨_, _, _, rfl, g1, g2⟩
theorem among_ok (l : List Int) (hl : ∀ x ∈ l, (Lit.int .u8 x).wf = true) (at_ u : Int) (c : List Int) (hc : 0 < c.length) (h0 : 0 ≤ at_) (h1 : at_ ≤ 2305843009213693952) :
    ∃ r at' u', spec_l1Cur_among.f l at_ u c = some (r, at', u') ∧ r ∈ c ∧ at_ ≤ at' ∧ at' ≤ at_ + 2 := by
  obtain ⟨r, a, u', e, r0, r1, _, g1, g2⟩ := pick_ok l hl at_ u (c.length : Int) h0 h1
  unfold spec_l1Cur_among.f
  rw [e]
  simp only [Option.bind_some]
  rw [if_pos r0, if_pos (by omega)]
  exact ⟨_, _, _, rfl, rd_mem c r r0 (by omega), g1, g2⟩

theorem plan_l0 (l : List Int) (hl : ∀ x ∈ l, (Lit.int .u8 x).wf = true) (d : Nat) : ∀ (k : Nat) (y : List S58) (at_ u : Int), d < k → y.length + d ≤ 100 → 0 ≤ at_ → at_ + 10 * d ≤ 1000000000 →
    ∃ y' at' u', spec_l1Cur_plan.l0 k y (d : Int) l at_ u = some (y', at', u') ∧ y'.length ≤ 100 ∧ at_ ≤ at' ∧ at' ≤ at_ + 10 * d + 4 := by
  induction d with
  | zero =>
    intro k y at_ u hk hy h0 h1
    obtain ⟨k, rfl⟩ : ∃ m, k = m + 1 := ⟨k - 1, by omega⟩
    rw [spec_l1Cur_plan.l0, if_neg (by omega)]
    by_cases c : (y.length : Int) > 0
    · rw [if_pos c]
      obtain ⟨x1, p1, v1, e1, g1, f1⟩ := one_ok l hl at_ u 30 h0 (by omega)
      rw [e1, Option.bind_some]
      dsimp only
      cases x1 with
      | true =>
        rw [if_pos rfl]
        obtain ⟨x2, p2, v2, e2, _, g2, f2⟩ := among_ok l hl p1 v1 [0, 1000, 1001] (by decide) (by omega) (by omega)
        rw [e2, Option.bind_some]
        dsimp only
        rw [if_pos (by omega)]
        exact ⟨_, _, _, rfl, by rw [List.length_set]; omega, by omega, by omega⟩
      | false =>
        rw [if_neg Bool.false_ne_true]
        exact ⟨_, _, _, rfl, by omega, by omega, by omega⟩
    · rw [if_neg c]
      exact ⟨_, _, _, rfl, by omega, by omega, by omega⟩
  | succ d ih =>
    intro k y at_ u hk hy h0 h1
    obtain ⟨k, rfl⟩ : ∃ m, k = m + 1 := ⟨k - 1, by omega⟩
    rw [spec_l1Cur_plan.l0, if_pos (by omega)]
    obtain ⟨x1, p1, v1, e1, _, _, _, g1, f1⟩ := pick_ok l hl at_ u 5 h0 (by omega)
    rw [e1, Option.bind_some]
    dsimp only
    obtain ⟨x2, p2, v2, e2, _, _, _, g2, f2⟩ := pick_ok l hl p1 v1 5 (by omega) (by omega)
    rw [e2, Option.bind_some]
    dsimp only
    obtain ⟨x3, p3, v3, e3, _, _, _, g3, f3⟩ := pick_ok l hl p2 v2 40 (by omega) (by omega)
    rw [e3, Option.bind_some]
    dsimp only
    obtain ⟨x4, p4, v4, e4, _, _, _, g4, f4⟩ := pick_ok l hl p3 v3 6 (by omega) (by omega)
    rw [e4, Option.bind_some]
    dsimp only
    obtain ⟨x5, p5, v5, e5, _, _, _, g5, f5⟩ := pick_ok l hl p4 v4 30 (by omega) (by omega)
    rw [e5, Option.bind_some]
    dsimp only
    have w : wrap64 (((d + 1 : Nat) : Int) - 1) = (d : Int) := by rw [wrap_in (by omega) (by omega)]; omega
    have go : ∀ z : S58, ∃ y' at' u', spec_l1Cur_plan.l0 k (y ++ [z]) (d : Int) l p5 v5 = some (y', at', u') ∧ y'.length ≤ 100 ∧ at_ ≤ at' ∧ at' ≤ at_ + 10 * ((d + 1 : Nat) : Int) + 4 := fun z => by
      obtain ⟨y', at', u', e6, a1, a2, a3⟩ := ih k (y ++ [z]) p5 v5 (by omega) (by rw [List.length_append, List.length_singleton]; omega) (by omega) (by omega)
      exact ⟨y', at', u', e6, a1, by omega, by omega⟩
    rw [w]
    by_cases c : x1 = x2
    · rw [if_pos c, if_pos (by omega)]
      exact go _
    · rw [if_neg c, if_pos (by omega)]
      exact go _
theorem plan_ok (l : List Int) (hl : ∀ x ∈ l, (Lit.int .u8 x).wf = true) (k : Nat) (hk : 100 < k) (at_ u : Int) (h0 : 0 ≤ at_) (h1 : at_ ≤ 1000000000 - 1000) :
    ∃ y at' u', spec_l1Cur_plan.f k l at_ u = some (y, at', u') ∧ y.length ≤ 100 ∧ at_ ≤ at' ∧ at' ≤ at_ + 500 := by
  unfold spec_l1Cur_plan.f
  obtain ⟨k, rfl⟩ : ∃ m, k = m + 1 := ⟨k - 1, by omega⟩
  obtain ⟨x1, p1, v1, e1, q1, q2, _, g1, f1⟩ := pick_ok l hl at_ u 10 h0 (by omega)
  rw [e1, Option.bind_some]
  dsimp only
  obtain ⟨x2, p2, v2, e2, g2, f2⟩ := one_ok l hl p1 v1 20 (by omega) (by omega)
  rw [e2, Option.bind_some]
  dsimp only
  cases x2 with
  | true =>
    rw [if_pos rfl]
    obtain ⟨x3, p3, v3, e3, q3, q4, _, g3, f3⟩ := pick_ok l hl p2 v2 2 (by omega) (by omega)
    rw [e3, Option.bind_some]
    dsimp only
    obtain ⟨y, at', u', e4, a1, a2, a3⟩ := plan_l0 l hl (20 + x3.toNat) k [] p3 v3 (by omega) (by simp; omega) (by omega) (by omega)
    rw [show wrap64 (20 + x3) = ((20 + x3.toNat : Nat) : Int) by rw [wrap_in (by omega) (by omega)]; omega, spec_l1Cur_plan.j0, e4]
    exact ⟨_, _, _, rfl, a1, by omega, by omega⟩
  | false =>
    rw [if_neg Bool.false_ne_true]
    obtain ⟨y, at', u', e4, a1, a2, a3⟩ := plan_l0 l hl x1.toNat k [] p2 v2 (by omega) (by simp; omega) (by omega) (by omega)
    rw [show x1 = ((x1.toNat : Nat) : Int) by omega, spec_l1Cur_plan.j0, e4]
    exact ⟨_, _, _, rfl, a1, by omega, by omega⟩

/-! The law. -/
theorem sameInts_l0 (a : List Int) (hn : a.length ≤ 9223372036854775807) (d : Nat) : ∀ (k i : Nat), a.length - i = d → d < k → laws_sameInts.l0 k a a (a.length : Int) (i : Int) = some true := by
  induction d with
  | zero =>
    intro k i hd hk
    obtain ⟨k, rfl⟩ : ∃ m, k = m + 1 := ⟨k - 1, by omega⟩
    rw [laws_sameInts.l0, if_neg (by omega)]
  | succ d ih =>
    intro k i hd hk
    obtain ⟨k, rfl⟩ : ∃ m, k = m + 1 := ⟨k - 1, by omega⟩
    rw [laws_sameInts.l0, if_pos (by omega), if_pos (by omega), if_pos (by omega), if_pos (by omega), if_pos rfl, wrap_succ (n := a.length) (by omega) hn]
    exact ih k (i + 1) (by omega) (by omega)

theorem dropInt (l : List Int) (i : Nat) (h : i < l.length) : l.drop i = rd l (i : Int) :: l.drop (i + 1) := by
  rw [List.drop_eq_getElem_cons h]
  unfold rd
  simp [List.getD_eq_getElem?_getD, List.getElem?_eq_getElem h]

theorem has_l0 (v : Int) (x : List Int) (hn : x.length ≤ 1048576) (d : Nat) : ∀ (k i : Nat), x.length - i = d → i ≤ x.length → d < k → laws_has.l0 k v x (x.length : Int) (i : Int) = some (decide (v ∈ x.drop i)) := by
  induction d with
  | zero =>
    intro k i hd hi hk
    obtain ⟨k, rfl⟩ : ∃ m, k = m + 1 := ⟨k - 1, by omega⟩
    rw [laws_has.l0, if_neg (by omega), List.drop_of_length_le (by omega)]
    rfl
  | succ d ih =>
    intro k i hd hi hk
    obtain ⟨k, rfl⟩ : ∃ m, k = m + 1 := ⟨k - 1, by omega⟩
    rw [laws_has.l0, if_pos (by omega), if_pos (by omega), if_pos (by omega), wrap_succ (n := x.length) (by omega) (by omega), ih k (i + 1) (by omega) (by omega) (by omega), dropInt x i (by omega)]
    by_cases c : rd x (i : Int) = v
    · rw [if_pos c, ← c, decide_eq_true List.mem_cons_self]
    · rw [if_neg c]
      congr 1
      rw [Bool.eq_iff_iff, decide_eq_true_eq, decide_eq_true_eq, List.mem_cons]
      exact ⟨Or.inr, fun h => h.resolve_left fun e => c e.symm⟩
theorem has_is (v : Int) (x : List Int) (hn : x.length ≤ 1048576) (k : Nat) (hk : 1048576 < k) : laws_has.f k x v = some (decide (v ∈ x)) := by
  have h := has_l0 v x hn x.length k 0 (by omega) (by omega) (by omega)
  rw [show ((0 : Nat) : Int) = 0 from rfl, List.drop_zero] at h
  exact h

theorem mono_to {α : Type} {f : Nat → Option α} (h : ∀ k, LeO (f k) (f (k + 1))) {k0 : Nat} {r : α} (e : f k0 = some r) : ∀ d, f (k0 + d) = some r
  | 0 => e
  | d + 1 => h _ _ (mono_to h e d)

/-! The law. -/
theorem whenTo_ok (l : List Int) (hl : ∀ x ∈ l, (Lit.int .u8 x).wf = true) (at_ u : Int) (h0 : 0 ≤ at_) (h1 : at_ ≤ 1000000000) :
    ∃ r at' u', spec_l1Cur_whenTo.f l at_ u = some (r, at', u') ∧ at_ ≤ at' ∧ at' ≤ at_ + 4 := by
  unfold spec_l1Cur_whenTo.f
  obtain ⟨x1, p1, v1, e1, g1, f1⟩ := one_ok l hl at_ u 20 h0 (by omega)
  rw [e1, Option.bind_some]
  dsimp only
  cases x1 with
  | true =>
    rw [if_pos rfl]
    obtain ⟨x2, p2, v2, e2, _, g2, f2⟩ := among_ok l hl p1 v1 [-1, 1000, 1001] (by decide) (by omega) (by omega)
    rw [e2]
    exact ⟨_, _, _, rfl, by dsimp only; omega, by dsimp only; omega⟩
  | false =>
    rw [if_neg Bool.false_ne_true]
    obtain ⟨x2, p2, v2, e2, _, _, _, g2, f2⟩ := pick_ok l hl p1 v1 50 (by omega) (by omega)
    rw [e2]
    exact ⟨_, _, _, rfl, by dsimp only; omega, by dsimp only; omega⟩
theorem drawFlood_ok (l : List Int) (hl : ∀ x ∈ l, (Lit.int .u8 x).wf = true) (k : Nat) (hk : 100 < k) : ∃ y a b c, spec_DrawFloodUntil.f k l = some (y, a, b, c) ∧ y.length ≤ 100 := by
  unfold spec_DrawFloodUntil.f
  obtain ⟨y, p1, v1, e1, hy, g1, f1⟩ := plan_ok l hl k hk 0 0 (by omega) (by omega)
  rw [e1, Option.bind_some]
  dsimp only
  obtain ⟨x2, p2, v2, e2, _, _, _, g2, f2⟩ := pick_ok l hl p1 v1 6 (by omega) (by omega)
  rw [e2, Option.bind_some]
  dsimp only
  obtain ⟨x3, p3, v3, e3, g3, f3⟩ := whenTo_ok l hl p2 v2 (by omega) (by omega)
  rw [e3, Option.bind_some]
  dsimp only
  obtain ⟨x4, p4, v4, e4, g4, f4⟩ := whenTo_ok l hl p3 v3 (by omega) (by omega)
  rw [e4, Option.bind_some]
  exact ⟨_, _, _, _, rfl, hy⟩
theorem mem_sel (x : List Int) (u v : Int) : ∀ n, v ∈ sel x u n ↔ ∃ m : Nat, m < n ∧ v = (m : Int) ∧ 0 ≤ rd x (m : Int) ∧ rd x (m : Int) ≤ u
  | 0 => ⟨fun h => (by cases h), fun h => (by obtain ⟨m, h, _⟩ := h; omega)⟩
  | n + 1 => by
    rw [sel, List.mem_append, mem_sel x u v n]
    constructor
    · rintro (⟨m, h1, h2, h3⟩ | h)
      · exact ⟨m, by omega, h2, h3⟩
      · by_cases c : 0 ≤ rd x (n : Int) ∧ rd x (n : Int) ≤ u
        · rw [if_pos c] at h
          exact ⟨n, by omega, List.mem_singleton.mp h, c⟩
        · rw [if_neg c] at h
          cases h
    · rintro ⟨m, h1, h2, h3⟩
      by_cases e : m = n
      · subst e
        right
        rw [if_pos h3]
        exact List.mem_singleton.mpr h2
      · exact Or.inl ⟨m, by omega, h2, h3⟩
theorem law_l0 (T : List Int) (hT : T.length = 8) (u : Int) (d : Nat) : ∀ i k : Nat, 8 - i = d → i ≤ 8 → 1048700 + d < k → laws_FnFlood.l0 k u (sel T u 8) T (T.length : Int) (i : Int) = some true := by
  induction d with
  | zero =>
    intro i k hd hi hk
    obtain ⟨k, rfl⟩ : ∃ m, k = m + 1 := ⟨k - 1, by omega⟩
    rw [laws_FnFlood.l0, if_neg (by omega)]
  | succ d ih =>
    intro i k hd hi hk
    obtain ⟨k, rfl⟩ : ∃ m, k = m + 1 := ⟨k - 1, by omega⟩
    have sl := sel_len T u 8
    have go := ih (i + 1) k (by omega) (by omega) (by omega)
    rw [laws_FnFlood.l0, if_pos (by omega), if_pos (by omega), if_pos (by omega), has_is _ _ (by omega) k (by omega), Option.bind_some, wrap_succ (n := T.length) (by omega) (by omega)]
    have mm : ((i : Int) ∈ sel T u 8) ↔ (0 ≤ rd T (i : Int) ∧ rd T (i : Int) ≤ u) := by
      rw [mem_sel]
      constructor
      · rintro ⟨m, h1, h2, h3⟩
        rw [show m = i by omega] at h3
        exact h3
      · exact fun h => ⟨i, by omega, rfl, h⟩
    by_cases c : rd T (i : Int) ≥ 0
    · rw [if_pos c, show decide ((i : Int) ∈ sel T u 8) = decide (rd T (i : Int) ≤ u) from decide_eq_decide.mpr (mm.trans ⟨fun h => h.2, fun h => ⟨c, h⟩⟩), if_neg (by simp)]
      exact go
    · rw [if_neg c, decide_eq_false (fun h => c (mm.1 h).1), if_neg (by decide)]
      exact go
theorem FnFlood : laws_FnFlood.Stmt := by
  intro l0 ⟨h0, w0⟩
  have big : ∃ R : List Int × Bool, ∃ B : Nat, ∃ y a b c, (∀ k, 100 < k → spec_DrawFloodUntil.f k l0 = some (y, a, b, c)) ∧ y.length ≤ 100 ∧ R.1.length ≤ 8 ∧ (R.2 = true → GP y ∧ (0 ≤ a ∧ a < 8) ∧ (0 ≤ b ∧ b ≤ 1000) ∧ (0 ≤ c ∧ c ≤ 1000) ∧ R.1 = sel (found y a b).1 c 8) ∧ (R.2 = false → R.1 = []) ∧ ∀ k, B ≤ k → spec_FloodUntil.f k y a b c = some R ∧ impl_FloodUntil.f k y a b c = some R := by
    obtain ⟨y, a, b, c, e, hy⟩ := drawFlood_ok l0 w0 101 (by omega)
    obtain ⟨R, B, h1, h2, h4, h3⟩ := flood_is y (by omega) a b c
    refine ⟨R, B, y, a, b, c, fun k hk => ?_, hy, h1, h2, h4, h3⟩
    have := mono_to (fun k => spec_DrawFloodUntil.mono l0 k) e (k - 101)
    rwa [show 101 + (k - 101) = k by omega] at this
  obtain ⟨R, B, y, a, b, c, e, hy, h8, hR, hN, m⟩ := big
  refine ⟨B + 1048900 + 1, ?_⟩
  unfold laws_FnFlood.f
  by_cases c0 : (l0.length : Int) > 1048576
  · rw [if_pos c0]
  · have ne : (R.2 != R.2) = false := by simp
    have ss := sameInts_l0 R.1 (by omega) R.1.length (B + 1048900 + 1) 0 (by omega) (by omega)
    rw [show ((0 : Nat) : Int) = 0 from rfl] at ss
    rw [if_neg c0, e _ (by omega), Option.bind_some]
    dsimp only
    rw [(m _ (by omega)).2, Option.bind_some, (m _ (by omega)).1, Option.bind_some, ne, if_neg Bool.false_ne_true]
    unfold laws_sameInts.f
    rw [if_pos rfl, ss, Option.bind_some, laws_FnFlood.j0, if_neg (by decide)]
    by_cases ok : R.2 = true
    · obtain ⟨hg, hs, ha, hu, hsel⟩ := hR ok
      obtain ⟨last, iv⟩ := srch_inv hg ha.1 7 (r0 a b) v0 b (inv0 hg hs ha)
      have e0 : (srch y 7 (r0 a b) v0) = found y a b := rfl
      rw [e0] at iv
      unfold impl_EarliestFrom.f
      rw [if_pos ok, iplan_is y (by omega) _ (by omega), decide_eq_true hg, Option.bind_some, if_pos rfl, inode_is, decide_eq_true hs, Option.bind_some, if_pos rfl, iwhen_is, decide_eq_true ha, Option.bind_some, if_pos rfl, ireach_is hg hs ha _ (by omega), Option.bind_some, Option.bind_some]
      dsimp only
      have := law_l0 (found y a b).1 iv.hr c 8 0 (B + 1048900) (by omega) (by omega) (by omega)
      rw [show ((0 : Nat) : Int) = 0 from rfl] at this
      rw [if_pos rfl, hsel, this]
    · rw [if_neg ok, hN (by simpa using ok)]
      rfl

end Go.Proofs.Ytanegdfncfkinaa.Pure
