/- The program's ReachAll returns what the reference's returns, for all plans, bundles and lists of members; it writes into none and its lists are new memory. -/
import Derived.Test.YteneeohaoplpbaaXFnExactReachAllx12
set_option linter.unusedVariables false
set_option linter.unusedSimpArgs false
namespace Go.Proofs.Yteneeohaoplpbaa.Pure
open Go.RowKit Go.Proofs.Yteneeohaoplpbaa.XFnExactReachAll Go.Proofs.YteneeohaoplpbaaW.PrintWords Go.Proofs.YteneeohaoplpbaaW.PrintLast Go.Proofs.YteneeohaoplpbaaW.PrintMore

/-- What is to be shown of FnExactReachAll, in numbers and lists alone. -/
def laws_FnExactReachAll.Stmt : Prop := ∀ (l0 : List (S125)) (a1_0 : Int) (a1_1 : Int) (a1_2 : Bool) (a1_3 : Int) (a1_4 : Int) (a1_5 : Int) (a1_6 : Int) (a1_7 : Int) (a1_8 : Int) (a1_9 : ByteArray) (l2 : List Int), (l0.length ≤ maxLen ∧ ∀ x ∈ l0, ((Lit.int .i64 x.f0).wf = true) ∧ ((Lit.int .i64 x.f1).wf = true) ∧ ((Lit.int .i64 x.f2).wf = true) ∧ ((Lit.int .i64 x.f3).wf = true) ∧ ((Lit.int .i64 x.f4).wf = true)) → (((Lit.int .i64 a1_0).wf = true) ∧ ((Lit.int .i64 a1_1).wf = true) ∧ True ∧ ((Lit.int .i64 a1_3).wf = true) ∧ ((Lit.int .i64 a1_4).wf = true) ∧ ((Lit.int .i64 a1_5).wf = true) ∧ ((Lit.int .i64 a1_6).wf = true) ∧ ((Lit.int .i64 a1_7).wf = true) ∧ ((Lit.int .i64 a1_8).wf = true) ∧ (a1_9.size ≤ maxLen)) → (l2.length ≤ maxLen ∧ ∀ x ∈ l2, (Lit.int .i64 x).wf = true) → ∃ k, laws_FnExactReachAll.f k l0 a1_0 a1_1 a1_2 a1_3 a1_4 a1_5 a1_6 a1_7 a1_8 a1_9 l2 = some true

theorem wrap_in {x : Int} (h0 : -9223372036854775808 ≤ x) (h1 : x ≤ 9223372036854775807) : wrap64 x = x := by
  unfold wrap64
  omega
theorem wrap_succ {i n : Nat} (h : i < n) (hn : n ≤ 9223372036854775807) : wrap64 ((i : Int) + 1) = ((i + 1 : Nat) : Int) := by
  rw [wrap_in (by omega) (by omega)]
  omega

theorem sin_is (a b c : Int) : spec_l1In.f a b c = some (decide (b ≤ a ∧ a ≤ c)) := by
  unfold spec_l1In.f
  by_cases h : a ≥ b
  · have h' : b ≤ a := h
    simp [h']
  · have h' : ¬ b ≤ a := h
    simp [h']
theorem iin_is (a b c : Int) : impl_within.f a b c = some (decide (b ≤ a ∧ a ≤ c)) := by
  unfold impl_within.f
  by_cases h : b ≤ a <;> simp [h]
theorem rd104_mem (l : List S104) (i : Nat) (h : i < l.length) : rd_T104 l (i : Int) ∈ l := by
  unfold rd_T104
  rw [show (i : Int).toNat = i from rfl, List.getD_eq_getElem?_getD, List.getElem?_eq_getElem h]
  exact List.getElem_mem h
theorem drop104 (l : List S104) (i : Nat) (h : i < l.length) : l.drop i = rd_T104 l (i : Int) :: l.drop (i + 1) := by
  rw [List.drop_eq_getElem_cons h]
  unfold rd_T104
  simp [List.getD_eq_getElem?_getD, List.getElem?_eq_getElem h]
/-- A contact that is one, and a plan of such. -/
def GC (c : S104) : Prop := (0 ≤ c.f0 ∧ c.f0 < 8) ∧ (0 ≤ c.f1 ∧ c.f1 < 8) ∧ c.f0 ≠ c.f1 ∧ (0 ≤ c.f3 ∧ c.f3 ≤ 1000) ∧ 0 ≤ c.f2 ∧ c.f2 < c.f3 ∧ (0 ≤ c.f4 ∧ c.f4 ≤ 100)
noncomputable instance (c : S104) : Decidable (GC c) := Classical.propDecidable _
def GP (l : List S104) : Prop := (∀ c ∈ l, GC c) ∧ l.length ≤ 20
noncomputable instance (l : List S104) : Decidable (GP l) := Classical.propDecidable _
theorem snode_is (a : Int) : spec_l6Node.f a = some (decide (0 ≤ a ∧ a < 8)) := by
  unfold spec_l6Node.f
  by_cases h : a ≥ 0
  · have h' : 0 ≤ a := h
    simp [h']
  · have h' : ¬ 0 ≤ a := h
    simp [h']
theorem inode_is (a : Int) : impl_isNode.f a = some (decide (0 ≤ a ∧ a < 8)) := by
  unfold impl_isNode.f
  rw [iin_is]
  exact congrArg some (decide_eq_decide.mpr (by omega))
theorem swhen_is (a : Int) : spec_l6When.f a = some (decide (0 ≤ a ∧ a ≤ 1000)) := by
  unfold spec_l6When.f
  rw [sin_is]
  rfl
theorem iwhen_is (a : Int) : impl_isWhen.f a = some (decide (0 ≤ a ∧ a ≤ 1000)) := by
  unfold impl_isWhen.f
  rw [iin_is]
  rfl
theorem splan_l0 (x l : List S104) (hn : l.length ≤ 1048576) (d : Nat) : ∀ (k i : Nat), l.length - i = d → i ≤ l.length → d < k →
    spec_GoodPlan.l0 k x l (l.length : Int) (i : Int) = some (decide ((∀ c ∈ l.drop i, GC c) ∧ x.length ≤ 20)) := by
  induction d with
  | zero =>
    intro k i hd hi hk
    obtain ⟨k, rfl⟩ : ∃ m, k = m + 1 := ⟨k - 1, by omega⟩
    rw [spec_GoodPlan.l0, if_neg (by omega), List.drop_of_length_le (by omega)]
    exact congrArg some (decide_eq_decide.mpr ⟨fun h => ⟨by simp, by omega⟩, fun h => by have := h.2; omega⟩)
  | succ d ih =>
    intro k i hd hi hk
    obtain ⟨k, rfl⟩ : ∃ m, k = m + 1 := ⟨k - 1, by omega⟩
    rw [spec_GoodPlan.l0, if_pos (by omega), if_pos (by omega), if_pos (by omega), snode_is, snode_is, swhen_is, sin_is, wrap_succ (n := l.length) (by omega) (by omega), ih k (i + 1) (by omega) (by omega) (by omega), drop104 l i (by omega)]
    generalize rd_T104 l (i : Int) = c
    simp only [Option.bind_some, decide_eq_true_eq]
    have no : ∀ (I : Decidable ((∀ y ∈ c :: l.drop (i + 1), GC y) ∧ x.length ≤ 20)), ¬ GC c → some false = some (@decide _ I) := fun I h => congrArg some (decide_eq_false fun g => h (g.1 _ List.mem_cons_self)).symm
    by_cases c1 : 0 ≤ c.f0 ∧ c.f0 < 8
    · rw [if_pos c1]
      by_cases c2 : 0 ≤ c.f1 ∧ c.f1 < 8
      · rw [if_pos c2]
        by_cases c3 : c.f0 = c.f1
        · rw [if_pos c3]
          exact no _ fun h => h.2.2.1 c3
        · rw [if_neg c3]
          by_cases c4 : 0 ≤ c.f3 ∧ c.f3 ≤ 1000
          · rw [if_pos c4]
            by_cases c5 : c.f2 < 0
            · rw [if_pos c5]
              exact no _ fun h => by have := h.2.2.2.2.1; omega
            · rw [if_neg c5]
              by_cases c6 : c.f2 ≥ c.f3
              · rw [if_pos c6]
                exact no _ fun h => by have := h.2.2.2.2.2.1; omega
              · rw [if_neg c6]
                by_cases c7 : 0 ≤ c.f4 ∧ c.f4 ≤ 100
                · rw [if_pos c7]
                  have g : GC c := ⟨c1, c2, c3, c4, by omega, by omega, c7⟩
                  exact congrArg some (decide_eq_decide.mpr ⟨fun h => ⟨List.forall_mem_cons.mpr ⟨g, h.1⟩, h.2⟩, fun h => ⟨(List.forall_mem_cons.mp h.1).2, h.2⟩⟩)
                · rw [if_neg c7]
                  exact no _ fun h => c7 h.2.2.2.2.2.2
          · rw [if_neg c4]
            exact no _ fun h => c4 h.2.2.2.1
      · rw [if_neg c2]
        exact no _ fun h => c2 h.2.1
    · rw [if_neg c1]
      exact no _ fun h => c1 h.1
theorem splan_is (l : List S104) (hn : l.length ≤ 1048576) (k : Nat) (hk : 1048576 < k) : spec_GoodPlan.f k l = some (decide (GP l)) := by
  unfold spec_GoodPlan.f
  have := splan_l0 l l hn l.length k 0 (by omega) (by omega) (by omega)
  rw [show ((0 : Nat) : Int) = 0 from rfl] at this
  rw [this]
  exact congrArg some (decide_eq_decide.mpr (by rw [List.drop_zero]; exact Iff.rfl))
theorem iunlike_is (a b : Int) : impl_areUnlike.f a b = some (decide ((0 ≤ a ∧ a < 8) ∧ (0 ≤ b ∧ b < 8) ∧ a ≠ b)) := by
  unfold impl_areUnlike.f
  rw [inode_is, inode_is]
  simp only [Option.bind_some, decide_eq_true_eq]
  by_cases c1 : 0 ≤ a ∧ a < 8
  · rw [if_pos c1]
    by_cases c2 : 0 ≤ b ∧ b < 8
    · rw [if_pos c2]
      congr 1
      rw [Bool.eq_iff_iff, decide_eq_true_eq, bne_iff_ne]
      exact ⟨fun h => ⟨c1, c2, h⟩, fun h => h.2.2⟩
    · rw [if_neg c2]
      exact congrArg some (decide_eq_false fun h => c2 h.2.1).symm
  · rw [if_neg c1]
    exact congrArg some (decide_eq_false fun h => c1 h.1).symm
theorem ilit_is (c : S104) : impl_GoodPlan_lit1.f c.f0 c.f1 c.f2 c.f3 c.f4 = some (!decide (GC c)) := by
  unfold impl_GoodPlan_lit1.f
  rw [iunlike_is, iin_is]
  simp only [Option.bind_some, decide_eq_true_eq]
  have no : ¬ GC c → some true = some (!decide (GC c)) := fun h => by rw [decide_eq_false h]; rfl
  by_cases c1 : (0 ≤ c.f0 ∧ c.f0 < 8) ∧ (0 ≤ c.f1 ∧ c.f1 < 8) ∧ c.f0 ≠ c.f1
  · rw [if_pos c1]
    by_cases c2 : c.f2 < 0
    · rw [if_pos c2]
      exact no fun h => by have := h.2.2.2.2.1; omega
    · rw [if_neg c2]
      by_cases c3 : c.f2 ≥ c.f3
      · rw [if_pos c3]
        exact no fun h => by have := h.2.2.2.2.2.1; omega
      · rw [if_neg c3]
        by_cases c4 : c.f3 > 1000
        · rw [if_pos c4]
          exact no fun h => by have := h.2.2.2.1; omega
        · rw [if_neg c4]
          congr 2
          exact decide_eq_decide.mpr ⟨fun h => ⟨c1.1, c1.2.1, c1.2.2, by omega, by omega, by omega, h⟩, fun h => h.2.2.2.2.2.2⟩
  · rw [if_neg c1]
    exact no fun h => c1 ⟨h.1, h.2.1, h.2.2.1⟩
theorem iidx_l0 (x : List S104) (hn : x.length ≤ 1048576) (d : Nat) : ∀ (i : Nat), x.length - i = d → i ≤ x.length →
    ∃ r : Int, (r ≥ 0 ↔ ¬ ∀ y ∈ x.drop i, GC y) ∧ ∀ k, d < k → impl_Contact_impl_GoodPlan_lit1_2.l0 k x (x.length : Int) (i : Int) = some r := by
  induction d with
  | zero =>
    intro i hd hi
    refine ⟨-1, ?_, fun k hk => ?_⟩
    · rw [List.drop_of_length_le (by omega)]
      simp
    · obtain ⟨k, rfl⟩ : ∃ m, k = m + 1 := ⟨k - 1, by omega⟩
      rw [impl_Contact_impl_GoodPlan_lit1_2.l0, if_neg (by omega)]
  | succ d ih =>
    intro i hd hi
    by_cases c : GC (rd_T104 x (i : Int))
    · obtain ⟨r, hr, h2⟩ := ih (i + 1) (by omega) (by omega)
      refine ⟨r, ?_, fun k hk => ?_⟩
      · rw [hr, drop104 x i (by omega)]
        simp only [List.forall_mem_cons, c, true_and]
      · obtain ⟨k, rfl⟩ : ∃ m, k = m + 1 := ⟨k - 1, by omega⟩
        rw [impl_Contact_impl_GoodPlan_lit1_2.l0, if_pos (by omega), if_pos (by omega), if_pos (by omega), ilit_is, wrap_succ (n := x.length) (by omega) (by omega), decide_eq_true c, Option.bind_some, if_neg (by decide)]
        exact h2 k (by omega)
    · refine ⟨(i : Int), ?_, fun k hk => ?_⟩
      · rw [drop104 x i (by omega)]
        exact ⟨fun _ h => c (h _ List.mem_cons_self), fun _ => by omega⟩
      · obtain ⟨k, rfl⟩ : ∃ m, k = m + 1 := ⟨k - 1, by omega⟩
        rw [impl_Contact_impl_GoodPlan_lit1_2.l0, if_pos (by omega), if_pos (by omega), if_pos (by omega), ilit_is, decide_eq_false c, Option.bind_some, if_pos (by decide)]
theorem iplan_is (l : List S104) (hn : l.length ≤ 1048576) (k : Nat) (hk : 1048576 < k) : impl_GoodPlan.f k l = some (decide (GP l)) := by
  unfold impl_GoodPlan.f impl_Contact_impl_GoodPlan_lit1.f impl_Contact_impl_GoodPlan_lit1_2.f
  obtain ⟨r, hr, e⟩ := iidx_l0 l hn l.length 0 (by omega) (by omega)
  rw [List.drop_zero] at hr
  have e' := e k (by omega)
  rw [show ((0 : Nat) : Int) = 0 from rfl] at e'
  rw [e']
  simp only [Option.bind_some]
  by_cases c : (l.length : Int) ≤ 20
  · rw [if_pos c]
    congr 1
    rw [Bool.eq_iff_iff, Bool.not_eq_true', decide_eq_false_iff_not, decide_eq_true_eq, hr]
    exact ⟨fun h => ⟨Classical.not_not.mp h, by omega⟩, fun h g => g h.1⟩
  · rw [if_neg c]
    exact congrArg some (decide_eq_false fun h => c (by have := h.2; omega)).symm

/-! The search: what a contact offers, the best of a row of contacts. -/
theorem set_len {l : List Int} {i : Nat} {v : Int} : (l.set i v).length = l.length := List.length_set
theorem rd_set (l : List Int) (i : Nat) (v j : Int) (hi : i < l.length) (hj : 0 ≤ j) : rd (l.set i v) j = if j = (i : Int) then v else rd l j := by
  unfold rd
  rw [List.getD_eq_getElem?_getD, List.getD_eq_getElem?_getD, List.getElem?_set]
  by_cases c : i = j.toNat
  · rw [if_pos c, if_pos hi, if_pos (by omega)]
    rfl
  · rw [if_neg c, if_neg (by omega)]
/-- When what leaves at a comes over the contact. -/
def over (c : S104) (a : Int) : Int := (if a < c.f2 then c.f2 else a) + c.f4
/-- What a contact offers: it is open behind the time its near end was reached, and its far end would be reached earlier. -/
def cand (r : List Int) (c : S104) : Option Int := if rd r c.f0 < 0 then none else if c.f3 ≤ rd r c.f0 then none else if 0 ≤ rd r c.f1 ∧ rd r c.f1 ≤ over c (rd r c.f0) then none else some (over c (rd r c.f0))
def pick2 (i : Int) (bt : Int × Int) (o : Option Int) : Int × Int := match o with
  | none => bt
  | some u => if bt.1 < 0 ∨ u < bt.2 then (i, u) else bt
def scan (r : List Int) : List S104 → Nat → Int × Int → Int × Int
  | [], _, bt => bt
  | c :: cs, i, bt => scan r cs (i + 1) (pick2 (i : Int) bt (cand r c))
theorem sover_is (c : S104) (hc : GC c) (a : Int) (h0 : 0 ≤ a) (h1 : a ≤ 2000) : spec_l6Over.f c.f0 c.f1 c.f2 c.f3 c.f4 a = some (if c.f3 ≤ a then -1 else over c a) := by
  obtain ⟨g1, g2, g3, g4, g5, g6, g7⟩ := hc
  unfold spec_l6Over.f over
  by_cases c1 : a ≥ c.f3
  · rw [if_pos c1, if_pos (show c.f3 ≤ a from c1)]
  · rw [if_neg c1, if_neg (show ¬ c.f3 ≤ a from c1)]
    by_cases c2 : a < c.f2
    · rw [if_pos c2, if_pos c2, wrap_in (by omega) (by omega)]
    · rw [if_neg c2, if_neg c2, wrap_in (by omega) (by omega)]
theorem iby_is (c : S104) (hc : GC c) (a : Int) (h0 : 0 ≤ a) (h1 : a ≤ 2000) : impl_Contact_by.f c.f0 c.f1 c.f2 c.f3 c.f4 a = some (over c a, decide (a < c.f3)) := by
  obtain ⟨g1, g2, g3, g4, g5, g6, g7⟩ := hc
  have e : mx a c.f2 = if a < c.f2 then c.f2 else a := rfl
  unfold impl_Contact_by.f over
  rw [e]
  congr 1
  refine Prod.ext ?_ ?_
  · dsimp only
    rw [wrap_in]
    · split <;> omega
    · split <;> omega
  · dsimp only
    exact decide_eq_decide.mpr (by split <;> omega)
theorem over_ge (c : S104) (hc : GC c) (a : Int) (h0 : 0 ≤ a) (h : ¬ c.f3 ≤ a) : a ≤ over c a ∧ over c a ≤ 1100 ∧ 0 ≤ over c a := by
  obtain ⟨g1, g2, g3, g4, g5, g6, g7⟩ := hc
  unfold over
  split <;> omega

/-! The search over an abstract row of times: each step sets a node that was not set, behind all that is set. -/
theorem scan_spec (r : List Int) (l : List S104) : ∀ (i : Nat) (bt : Int × Int),
    ((scan r l i bt).1 < 0 → bt.1 < 0 ∧ ∀ c ∈ l, cand r c = none) ∧
    (0 ≤ (scan r l i bt).1 → (0 ≤ bt.1 → (scan r l i bt).2 ≤ bt.2) ∧ (∀ c ∈ l, ∀ u, cand r c = some u → (scan r l i bt).2 ≤ u) ∧
      (scan r l i bt = bt ∨ ∃ j : Nat, j < l.length ∧ (scan r l i bt).1 = ((i + j : Nat) : Int) ∧ cand r (rd_T104 l (j : Int)) = some (scan r l i bt).2)) := by
  induction l with
  | nil =>
    intro i bt
    exact ⟨fun h => ⟨h, by simp⟩, fun h => ⟨fun _ => Int.le_refl _, by simp, Or.inl rfl⟩⟩
  | cons c cs ih =>
    intro i bt
    have up : ∀ (R : Int × Int), (∃ j : Nat, j < cs.length ∧ R.1 = ((i + 1 + j : Nat) : Int) ∧ cand r (rd_T104 cs (j : Int)) = some R.2) →
        ∃ j : Nat, j < (c :: cs).length ∧ R.1 = ((i + j : Nat) : Int) ∧ cand r (rd_T104 (c :: cs) (j : Int)) = some R.2 := by
      intro R ⟨j, h1, h2, h3⟩
      refine ⟨j + 1, by simp only [List.length_cons]; omega, by rw [h2]; congr 1; omega, ?_⟩
      rw [show rd_T104 (c :: cs) ((j + 1 : Nat) : Int) = rd_T104 cs (j : Int) from rfl]
      exact h3
    cases e : cand r c with
    | none =>
      have h := ih (i + 1) bt
      rw [show scan r (c :: cs) i bt = scan r cs (i + 1) bt from by rw [scan, e]; rfl]
      refine ⟨fun g => ⟨(h.1 g).1, List.forall_mem_cons.mpr ⟨e, (h.1 g).2⟩⟩, fun g => ⟨(h.2 g).1, ?_, ?_⟩⟩
      · exact List.forall_mem_cons.mpr ⟨fun u hu => (by rw [e] at hu; cases hu), (h.2 g).2.1⟩
      · rcases (h.2 g).2.2 with h3 | h3
        · exact Or.inl h3
        · exact Or.inr (up _ h3)
    | some u =>
      by_cases q : bt.1 < 0 ∨ u < bt.2
      · have h := ih (i + 1) ((i : Int), u)
        rw [show scan r (c :: cs) i bt = scan r cs (i + 1) ((i : Int), u) from by rw [scan, e, pick2, if_pos q]]
        generalize hR : scan r cs (i + 1) ((i : Int), u) = R at h
        have hi : (0 : Int) ≤ (i : Int) := by omega
        refine ⟨fun g => ?_, fun g => ⟨fun g2 => ?_, ?_, ?_⟩⟩
        · have := (h.1 g).1
          dsimp only at this
          omega
        · have h1 := (h.2 g).1 hi
          dsimp only at h1
          rcases q with q | q <;> omega
        · refine List.forall_mem_cons.mpr ⟨fun w hw => ?_, (h.2 g).2.1⟩
          rw [e] at hw
          cases hw
          exact (h.2 g).1 hi
        · rcases (h.2 g).2.2 with h3 | h3
          · refine Or.inr ⟨0, by simp, by rw [h3]; rfl, ?_⟩
            rw [show rd_T104 (c :: cs) ((0 : Nat) : Int) = c from rfl, e, h3]
          · exact Or.inr (up _ h3)
      · have h := ih (i + 1) bt
        rw [show scan r (c :: cs) i bt = scan r cs (i + 1) bt from by rw [scan, e, pick2, if_neg q]]
        generalize hR : scan r cs (i + 1) bt = R at h
        refine ⟨fun g => ?_, fun g => ⟨(h.2 g).1, ?_, ?_⟩⟩
        · have := (h.1 g).1
          omega
        · refine List.forall_mem_cons.mpr ⟨fun w hw => ?_, (h.2 g).2.1⟩
          rw [e] at hw
          cases hw
          have := (h.2 g).1 (by omega)
          omega
        · rcases (h.2 g).2.2 with h3 | h3
          · exact Or.inl h3
          · exact Or.inr (up _ h3)
/-- How many are not set. -/
def unset : List Int → Nat
  | [] => 0
  | x :: l => (if x < 0 then 1 else 0) + unset l
theorem unset_set (v : Int) (hv : 0 ≤ v) : ∀ (l : List Int) (i : Nat), i < l.length → rd l (i : Int) < 0 → unset (l.set i v) + 1 = unset l
  | [], i, h, _ => absurd h (by simp)
  | x :: l, 0, _, hx => by
    rw [show rd (x :: l) ((0 : Nat) : Int) = x from rfl] at hx
    rw [List.set_cons_zero, unset, unset, if_neg (by omega), if_pos hx]
    omega
  | x :: l, i + 1, h, hx => by
    rw [show rd (x :: l) ((i + 1 : Nat) : Int) = rd l (i : Int) from rfl] at hx
    have := unset_set v hv l i (by simpa using h) hx
    rw [List.set_cons_succ, unset, unset]
    omega
/-- The contacts, in order, by which a node was reached. -/
inductive Pth (l : List S104) (src : Int) (r v : List Int) : Int → List Int → Prop
  | nil : Pth l src r v src []
  | snoc {n m : Int} {p : List Int} {i : Nat} : Pth l src r v n p → i < l.length → (rd_T104 l (i : Int)).f0 = n → (rd_T104 l (i : Int)).f1 = m → m ≠ src → rd v m = (i : Int) → 0 ≤ rd r m → 0 ≤ rd r n → rd r n < (rd_T104 l (i : Int)).f3 → 0 ≤ m → 0 ≤ n → Pth l src r v m (p ++ [(i : Int)])
theorem pth_mono {l : List S104} {src : Int} {r v r' v' : List Int} (h : ∀ n, 0 ≤ n → 0 ≤ rd r n → rd r' n = rd r n ∧ rd v' n = rd v n) {n : Int} {p : List Int} (hp : Pth l src r v n p) : Pth l src r' v' n p := by
  induction hp with
  | nil => exact .nil
  | snoc h0 h1 h2 h3 h4 h5 h6 h7 h8 h9 h10 ih =>
    have a := h _ h9 h6
    have b := h _ h10 h7
    exact .snoc ih h1 h2 h3 h4 (by rw [a.2]; exact h5) (by rw [a.1]; exact h6) (by rw [b.1]; exact h7) (by rw [b.1]; exact h8) h9 h10
theorem pth_head {l : List S104} {src : Int} {r v : List Int} {n : Int} {p : List Int} (hp : Pth l src r v n p) : ∀ i q, p = i :: q → 0 ≤ i ∧ i < (l.length : Int) ∧ (rd_T104 l i).f0 = src ∧ rd r src < (rd_T104 l i).f3 := by
  induction hp with
  | nil => intro i q h; cases h
  | @snoc n m p i h0 h1 h2 h3 h4 h5 h6 h7 h8 h9 h10 ih =>
    intro j q e
    cases h0 with
    | nil =>
      rw [List.nil_append] at e
      cases e
      exact ⟨by omega, by omega, h2, h8⟩
    | @snoc n' m' p' i' g0 g1 g2 g3 g4 g5 g6 g7 g8 g9 g10 =>
      cases p' with
      | nil =>
        rw [List.nil_append, List.cons_append, List.nil_append] at e
        cases e
        exact ih _ [] rfl
      | cons a p' =>
        rw [List.cons_append, List.cons_append] at e
        injection e with e1 e2
        subst e1
        exact ih _ (p' ++ [(i' : Int)]) rfl
/-- What stands of a search. -/
structure Inv (l : List S104) (src at' : Int) (r v : List Int) (last : Int) : Prop where
  hr : r.length = 8
  hv : v.length = 8
  hs : rd r src = at'
  hl : ∀ n, 0 ≤ n → n < 8 → rd r n ≤ last
  hc : ∀ c ∈ l, ∀ u, cand r c = some u → last ≤ u
  hb : last ≤ 1100
  hp : ∀ n, 0 ≤ n → n < 8 → 0 ≤ rd r n → ∃ p, Pth l src r v n p ∧ p.length + unset r ≤ 7
theorem cand_some {r : List Int} {c : S104} {u : Int} (h : cand r c = some u) : 0 ≤ rd r c.f0 ∧ rd r c.f0 < c.f3 ∧ (rd r c.f1 < 0 ∨ u < rd r c.f1) ∧ u = over c (rd r c.f0) := by
  unfold cand at h
  by_cases c1 : rd r c.f0 < 0
  · rw [if_pos c1] at h
    cases h
  · rw [if_neg c1] at h
    by_cases c2 : c.f3 ≤ rd r c.f0
    · rw [if_pos c2] at h
      cases h
    · rw [if_neg c2] at h
      by_cases c3 : 0 ≤ rd r c.f1 ∧ rd r c.f1 ≤ over c (rd r c.f0)
      · rw [if_pos c3] at h
        cases h
      · rw [if_neg c3] at h
        injection h with h
        exact ⟨by omega, by omega, by omega, h.symm⟩
theorem cand_mk {r : List Int} {c : S104} (h1 : 0 ≤ rd r c.f0) (h2 : rd r c.f0 < c.f3) (h3 : rd r c.f1 < 0 ∨ over c (rd r c.f0) < rd r c.f1) : cand r c = some (over c (rd r c.f0)) := by
  unfold cand
  rw [if_neg (by omega), if_neg (by omega), if_neg (by omega)]
theorem inv_step {l : List S104} (hg : GP l) {src at' : Int} (h0 : 0 ≤ at') {r v : List Int} {last : Int} (h : Inv l src at' r v last) {j : Nat} {t : Int} (hj : j < l.length) (ht : cand r (rd_T104 l (j : Int)) = some t) (hm : ∀ c ∈ l, ∀ u, cand r c = some u → t ≤ u) :
    Inv l src at' (r.set (rd_T104 l (j : Int)).f1.toNat t) (v.set (rd_T104 l (j : Int)).f1.toNat (j : Int)) t ∧ unset (r.set (rd_T104 l (j : Int)).f1.toNat t) + 1 = unset r := by
  have hmem := rd104_mem l j hj
  have gc := hg.1 _ hmem
  obtain ⟨r0, r1, r2, r3⟩ := cand_some ht
  have lt := h.hc _ hmem _ ht
  have f0 : 0 ≤ (rd_T104 l (j : Int)).f0 ∧ (rd_T104 l (j : Int)).f0 < 8 := gc.1
  have f1 : 0 ≤ (rd_T104 l (j : Int)).f1 ∧ (rd_T104 l (j : Int)).f1 < 8 := gc.2.1
  have l1 := h.hl _ f1.1 f1.2
  have un : rd r (rd_T104 l (j : Int)).f1 < 0 := by omega
  have ge := over_ge _ gc (rd r (rd_T104 l (j : Int)).f0) r0 (by omega)
  have hr := h.hr
  have hv := h.hv
  have hs := h.hs
  have ns : (rd_T104 l (j : Int)).f1 ≠ src := fun e => by rw [e, hs] at un; omega
  generalize hc : rd_T104 l (j : Int) = c at *
  have ec : ((c.f1.toNat : Nat) : Int) = c.f1 := by omega
  have us := unset_set t (by omega) r c.f1.toNat (by omega) (by rw [ec]; exact un)
  have R : ∀ n, 0 ≤ n → rd (r.set c.f1.toNat t) n = if n = c.f1 then t else rd r n := fun n hn => by rw [rd_set _ _ _ _ (by omega) hn, ec]
  have V : ∀ n, 0 ≤ n → rd (v.set c.f1.toNat (j : Int)) n = if n = c.f1 then (j : Int) else rd v n := fun n hn => by rw [rd_set _ _ _ _ (by omega) hn, ec]
  have M : ∀ n, 0 ≤ n → 0 ≤ rd r n → rd (r.set c.f1.toNat t) n = rd r n ∧ rd (v.set c.f1.toNat (j : Int)) n = rd v n := by
    intro n hn h1
    have : n ≠ c.f1 := fun e => by rw [e] at h1; omega
    rw [R n hn, V n hn, if_neg this, if_neg this]
    exact ⟨rfl, rfl⟩
  refine ⟨⟨by rw [List.length_set]; exact hr, by rw [List.length_set]; exact hv, ?_, ?_, ?_, by omega, ?_⟩, us⟩
  · by_cases q : 0 ≤ src
    · rw [R src q, if_neg (fun e => ns e.symm)]
      exact hs
    · have e1 : ∀ x : List Int, rd x src = rd x 0 := fun x => by
        unfold rd
        rw [show src.toNat = 0 from by omega]
        rfl
      rw [e1, R 0 (by omega), if_neg, ← e1]
      · exact hs
      · intro e
        rw [← e, ← e1, hs] at un
        omega
  · intro n n0 n8
    rw [R n n0]
    by_cases q : n = c.f1
    · rw [if_pos q]
      omega
    · rw [if_neg q]
      have := h.hl n n0 n8
      omega
  · intro d hd u hu
    have gd := hg.1 _ hd
    obtain ⟨a0, a1, a2, a3⟩ := cand_some hu
    have d0 : 0 ≤ d.f0 := gd.1.1
    have d1 : 0 ≤ d.f1 := gd.2.1.1
    rw [R _ d0] at a0 a1 a3
    rw [R _ d1] at a2
    by_cases q : d.f0 = c.f1
    · rw [if_pos q] at a0 a1 a3
      have := over_ge d gd t a0 (by omega)
      omega
    · rw [if_neg q] at a0 a1 a3
      refine hm d hd u ?_
      rw [a3]
      refine cand_mk a0 a1 ?_
      by_cases q1 : d.f1 = c.f1
      · rw [q1]
        exact Or.inl un
      · rw [if_neg q1] at a2
        rw [← a3]
        exact a2
  · intro n n0 n8 hn
    by_cases q : n = c.f1
    · obtain ⟨p, p1, p2⟩ := h.hp _ f0.1 f0.2 r0
      have R0 := R c.f0 f0.1
      rw [if_neg gc.2.2.1] at R0
      refine ⟨p ++ [(j : Int)], ?_, by rw [List.length_append, List.length_singleton]; omega⟩
      rw [q]
      refine Pth.snoc (pth_mono M p1) hj (by rw [hc]) (by rw [hc]) ns ?_ ?_ ?_ ?_ f1.1 f0.1
      · rw [V _ f1.1, if_pos rfl]
      · rw [R _ f1.1, if_pos rfl]
        omega
      · rw [R0]
        exact r0
      · rw [R0, hc]
        exact r1
    · rw [R n n0, if_neg q] at hn
      obtain ⟨p, p1, p2⟩ := h.hp n n0 n8 hn
      exact ⟨p, pth_mono M p1, by omega⟩
/-- All steps of a search. -/
def srch (l : List S104) : Nat → List Int → List Int → List Int × List Int
  | 0, r, v => (r, v)
  | d + 1, r, v => if (scan r l 0 (-1, 0)).1 < 0 then (r, v) else srch l d (r.set (rd_T104 l (scan r l 0 (-1, 0)).1).f1.toNat (scan r l 0 (-1, 0)).2) (v.set (rd_T104 l (scan r l 0 (-1, 0)).1).f1.toNat (scan r l 0 (-1, 0)).1)
theorem scan_found {r : List Int} {l : List S104} (h : ¬ (scan r l 0 (-1, 0)).1 < 0) : ∃ j : Nat, j < l.length ∧ (scan r l 0 (-1, 0)).1 = (j : Int) ∧ cand r (rd_T104 l (j : Int)) = some (scan r l 0 (-1, 0)).2 ∧ ∀ c ∈ l, ∀ u, cand r c = some u → (scan r l 0 (-1, 0)).2 ≤ u := by
  have g := (scan_spec r l 0 (-1, 0)).2 (by omega)
  rcases g.2.2 with e | ⟨j, h1, h2, h3⟩
  · rw [e] at h
    exact absurd (show (-1 : Int) < 0 from by decide) h
  · exact ⟨j, h1, by rw [h2]; congr 1; omega, h3, g.2.1⟩
theorem srch_inv {l : List S104} (hg : GP l) {src at' : Int} (h0 : 0 ≤ at') (d : Nat) : ∀ (r v : List Int) (last : Int), Inv l src at' r v last → ∃ last', Inv l src at' (srch l d r v).1 (srch l d r v).2 last' := by
  induction d with
  | zero => exact fun r v last h => ⟨last, h⟩
  | succ d ih =>
    intro r v last h
    rw [srch]
    by_cases c : (scan r l 0 (-1, 0)).1 < 0
    · rw [if_pos c]
      exact ⟨last, h⟩
    · rw [if_neg c]
      obtain ⟨j, h1, h2, h3, h4⟩ := scan_found c
      rw [h2]
      exact ih _ _ _ (inv_step hg h0 h h1 h3 h4).1
def r0 (src at' : Int) : List Int := (List.replicate 8 (-1)).set src.toNat at'
def v0 : List Int := List.replicate 8 (-1)
theorem rd_rep (n : Int) (h0 : 0 ≤ n) (h8 : n < 8) : rd (List.replicate 8 (-1)) n = -1 := by
  unfold rd
  rw [List.getD_eq_getElem?_getD, List.getElem?_replicate, if_pos (by omega)]
  rfl
theorem r0_rd (src at' : Int) (hs : 0 ≤ src ∧ src < 8) (n : Int) (h0 : 0 ≤ n) (h8 : n < 8) : rd (r0 src at') n = if n = src then at' else -1 := by
  unfold r0
  rw [rd_set _ _ _ _ (by rw [List.length_replicate]; omega) h0, rd_rep n h0 h8, show ((src.toNat : Nat) : Int) = src from by omega]
theorem r0_unset (src at' : Int) (hs : 0 ≤ src ∧ src < 8) (ha : 0 ≤ at') : unset (r0 src at') = 7 := by
  have := unset_set at' ha (List.replicate 8 (-1)) src.toNat (by rw [List.length_replicate]; omega) (by rw [show ((src.toNat : Nat) : Int) = src from by omega, rd_rep src hs.1 hs.2]; decide)
  have e : unset (List.replicate 8 (-1)) = 8 := by decide
  unfold r0
  omega
theorem inv0 {l : List S104} (hg : GP l) {src at' : Int} (hs : 0 ≤ src ∧ src < 8) (ha : 0 ≤ at' ∧ at' ≤ 1000) : Inv l src at' (r0 src at') v0 at' := by
  refine ⟨by unfold r0; rw [List.length_set, List.length_replicate], by unfold v0; rw [List.length_replicate], by rw [r0_rd src at' hs src hs.1 hs.2, if_pos rfl], ?_, ?_, by omega, ?_⟩
  · intro n n0 n8
    rw [r0_rd src at' hs n n0 n8]
    split <;> omega
  · intro c hc u hu
    obtain ⟨a0, a1, a2, a3⟩ := cand_some hu
    have gc := hg.1 c hc
    rw [r0_rd src at' hs _ gc.1.1 gc.1.2] at a0 a1 a3
    by_cases q : c.f0 = src
    · rw [if_pos q] at a0 a1 a3
      have := over_ge c gc at' a0 (by omega)
      omega
    · rw [if_neg q] at a0
      omega
  · intro n n0 n8 hn
    rw [r0_rd src at' hs n n0 n8] at hn
    by_cases q : n = src
    · rw [q]
      exact ⟨[], Pth.nil, by rw [r0_unset src at' hs ha.1]; simp⟩
    · rw [if_neg q] at hn
      omega

/-! Both programs' searches are this one. -/
theorem s_l2 {l : List S104} (hg : GP l) {r v : List Int} (hr : r.length = 8) (hb : ∀ n, 0 ≤ n → n < 8 → rd r n ≤ 1100) (R : List Int × List Int) (B : Nat) (d : Nat) : ∀ (i : Nat) (b t : Int), l.length - i = d → i ≤ l.length →
    (∀ k, B ≤ k → spec_l6Search.l2 k l r v (scan r (l.drop i) i (b, t)).1 (scan r (l.drop i) i (b, t)).2 l (l.length : Int) (l.length : Int) = some R) →
    ∀ k, B + 2 * d ≤ k → spec_l6Search.l2 k l r v b t l (l.length : Int) (i : Int) = some R := by
  have h20 := hg.2
  induction d with
  | zero =>
    intro i b t hd hi h k hk
    have e : i = l.length := by omega
    subst e
    have := h k (by omega)
    rw [List.drop_length, scan] at this
    exact this
  | succ d ih =>
    intro i b t hd hi h k hk
    obtain ⟨k, rfl⟩ : ∃ m, k = m + 2 := ⟨k - 2, by omega⟩
    rw [drop104 l i (by omega), scan] at h
    have gc := hg.1 _ (rd104_mem l i (by omega))
    rw [spec_l6Search.l2, if_pos (by omega), if_pos (by omega), if_pos (by omega)]
    have wr : wrap64 ((i : Int) + 1) = ((i + 1 : Nat) : Int) := wrap_succ (n := l.length) (by omega) (by omega)
    generalize rd_T104 l (i : Int) = c at *
    have f0 : 0 ≤ c.f0 ∧ c.f0 < 8 := gc.1
    have f1 : 0 ≤ c.f1 ∧ c.f1 < 8 := gc.2.1
    have b0 := hb c.f0 f0.1 f0.2
    rw [if_pos f0.1, if_pos (by omega), wr]
    by_cases c1 : rd r c.f0 < 0
    · rw [if_pos c1]
      have e : cand r c = none := by rw [cand, if_pos c1]
      rw [e, pick2] at h
      exact ih (i + 1) b t (by omega) (by omega) h (k + 1) (by omega)
    · rw [if_neg c1, sover_is c gc _ (by omega) (by omega), Option.bind_some]
      by_cases c2 : c.f3 ≤ rd r c.f0
      · have e : cand r c = none := by rw [cand, if_neg c1, if_pos c2]
        rw [e, pick2] at h
        rw [if_pos c2, if_pos (by omega), spec_l6Search.j3, if_pos rfl, wr]
        exact ih (i + 1) b t (by omega) (by omega) h k (by omega)
      · rw [if_neg c2]
        have ge := over_ge c gc _ (by omega) c2
        have J : ∀ x : Bool, (x = true → cand r c = none) → (x = false → cand r c = some (over c (rd r c.f0))) → spec_l6Search.j3 (k + 1) l r v b t (i : Int) (over c (rd r c.f0)) l (l.length : Int) (i : Int) x = some R := by
          intro x h1 h2
          rw [spec_l6Search.j3, wr]
          cases x with
          | true =>
            rw [h1 rfl, pick2] at h
            rw [if_pos rfl]
            exact ih (i + 1) b t (by omega) (by omega) h k (by omega)
          | false =>
            rw [h2 rfl, pick2] at h
            rw [if_neg (by decide)]
            by_cases c3 : b < 0
            · rw [if_pos (Or.inl c3)] at h
              rw [if_pos c3]
              exact ih (i + 1) _ _ (by omega) (by omega) h k (by omega)
            · rw [if_neg c3]
              by_cases c4 : over c (rd r c.f0) < t
              · rw [if_pos (Or.inr c4)] at h
                rw [if_pos c4]
                exact ih (i + 1) _ _ (by omega) (by omega) h k (by omega)
              · rw [if_neg (by intro g; rcases g with g | g; exact c3 g; exact c4 g)] at h
                rw [if_neg c4]
                exact ih (i + 1) _ _ (by omega) (by omega) h k (by omega)
        rw [if_neg (by omega), if_pos f1.1, if_pos (by omega)]
        by_cases c5 : rd r c.f1 ≥ 0
        · rw [if_pos c5]
          refine J _ (fun g => ?_) (fun g => ?_)
          · have g' := of_decide_eq_true g
            rw [cand, if_neg c1, if_neg c2, if_pos ⟨c5, g'⟩]
          · have g' := of_decide_eq_false g
            rw [cand, if_neg c1, if_neg c2, if_neg fun q => g' q.2]
        · rw [if_neg c5]
          refine J _ (fun g => by cases g) (fun g => ?_)
          rw [cand, if_neg c1, if_neg c2, if_neg fun q => c5 q.1]
theorem i_l1 {l : List S104} (hg : GP l) {r v : List Int} (hr : r.length = 8) (hb : ∀ n, 0 ≤ n → n < 8 → rd r n ≤ 1100) (R : List Int × List Int) (B : Nat) (d : Nat) : ∀ (i : Nat) (b t : Int), l.length - i = d → i ≤ l.length →
    (∀ k, B ≤ k → impl_reach.l1 k l r v (scan r (l.drop i) i (b, t)).1 (scan r (l.drop i) i (b, t)).2 l (l.length : Int) (l.length : Int) = some R) →
    ∀ k, B + d ≤ k → impl_reach.l1 k l r v b t l (l.length : Int) (i : Int) = some R := by
  have h20 := hg.2
  induction d with
  | zero =>
    intro i b t hd hi h k hk
    have e : i = l.length := by omega
    subst e
    have := h k (by omega)
    rw [List.drop_length, scan] at this
    exact this
  | succ d ih =>
    intro i b t hd hi h k hk
    obtain ⟨k, rfl⟩ : ∃ m, k = m + 1 := ⟨k - 1, by omega⟩
    rw [drop104 l i (by omega), scan] at h
    have gc := hg.1 _ (rd104_mem l i (by omega))
    rw [impl_reach.l1, if_pos (by omega), if_pos (by omega), if_pos (by omega)]
    have wr : wrap64 ((i : Int) + 1) = ((i + 1 : Nat) : Int) := wrap_succ (n := l.length) (by omega) (by omega)
    generalize rd_T104 l (i : Int) = c at *
    have f0 : 0 ≤ c.f0 ∧ c.f0 < 8 := gc.1
    have f1 : 0 ≤ c.f1 ∧ c.f1 < 8 := gc.2.1
    have b0 := hb c.f0 f0.1 f0.2
    rw [if_pos f0.1, if_pos (by omega), wr]
    by_cases c1 : rd r c.f0 < 0
    · rw [if_pos c1]
      have e : cand r c = none := by rw [cand, if_pos c1]
      rw [e, pick2] at h
      exact ih (i + 1) b t (by omega) (by omega) h k (by omega)
    · rw [if_neg c1, iby_is c gc _ (by omega) (by omega), Option.bind_some]
      dsimp only
      by_cases c2 : c.f3 ≤ rd r c.f0
      · have e : cand r c = none := by rw [cand, if_neg c1, if_pos c2]
        rw [e, pick2] at h
        rw [decide_eq_false (by omega), if_neg (by decide)]
        exact ih (i + 1) b t (by omega) (by omega) h k (by omega)
      · rw [decide_eq_true (by omega), if_pos rfl, if_pos f1.1, if_pos (by omega)]
        have J : cand r c = some (over c (rd r c.f0)) → (if b < 0 then impl_reach.l1 k l r v (i : Int) (over c (rd r c.f0)) l (l.length : Int) ((i + 1 : Nat) : Int) else if over c (rd r c.f0) < t then impl_reach.l1 k l r v (i : Int) (over c (rd r c.f0)) l (l.length : Int) ((i + 1 : Nat) : Int) else impl_reach.l1 k l r v b t l (l.length : Int) ((i + 1 : Nat) : Int)) = some R := by
          intro h2
          rw [h2, pick2] at h
          by_cases c3 : b < 0
          · rw [if_pos (Or.inl c3)] at h
            rw [if_pos c3]
            exact ih (i + 1) _ _ (by omega) (by omega) h k (by omega)
          · rw [if_neg c3]
            by_cases c4 : over c (rd r c.f0) < t
            · rw [if_pos (Or.inr c4)] at h
              rw [if_pos c4]
              exact ih (i + 1) _ _ (by omega) (by omega) h k (by omega)
            · rw [if_neg (by intro g; rcases g with g | g; exact c3 g; exact c4 g)] at h
              rw [if_neg c4]
              exact ih (i + 1) _ _ (by omega) (by omega) h k (by omega)
        by_cases c5 : rd r c.f1 < 0
        · rw [if_pos c5]
          exact J (by rw [cand, if_neg c1, if_neg c2, if_neg fun q => by have := q.1; omega])
        · rw [if_neg c5]
          by_cases c6 : over c (rd r c.f0) < rd r c.f1
          · rw [if_pos c6]
            exact J (by rw [cand, if_neg c1, if_neg c2, if_neg fun q => by have := q.2; omega])
          · rw [if_neg c6]
            have e : cand r c = none := by rw [cand, if_neg c1, if_neg c2, if_pos ⟨by omega, by omega⟩]
            rw [e, pick2] at h
            exact ih (i + 1) b t (by omega) (by omega) h k (by omega)
theorem s_l1 {l : List S104} (hg : GP l) {src at' : Int} (h0 : 0 ≤ at') (d : Nat) : ∀ (r v : List Int) (last : Int), Inv l src at' r v last → unset r ≤ d → ∀ k, 50 * (d + 1) ≤ k → spec_l6Search.l1 k l r v = some (srch l d r v) := by
  have h20 := hg.2
  induction d with
  | zero =>
    intro r v last h hu k hk
    obtain ⟨k, rfl⟩ : ∃ m, k = m + 1 := ⟨k - 1, by omega⟩
    have hb := h.hb
    rw [spec_l6Search.l1]
    refine s_l2 hg h.hr (fun n n0 n8 => by have := h.hl n n0 n8; omega) _ 1 l.length 0 (-1) 0 (by omega) (by omega) ?_ k (by omega)
    intro k hk
    obtain ⟨k, rfl⟩ : ∃ m, k = m + 1 := ⟨k - 1, by omega⟩
    rw [List.drop_zero, spec_l6Search.l2, if_neg (by omega)]
    by_cases c : (scan r l 0 (-1, 0)).1 < 0
    · rw [if_pos c]
      rfl
    · obtain ⟨j, h1, h2, h3, h4⟩ := scan_found c
      have := (inv_step hg h0 h h1 h3 h4).2
      omega
  | succ d ih =>
    intro r v last h hu k hk
    obtain ⟨k, rfl⟩ : ∃ m, k = m + 1 := ⟨k - 1, by omega⟩
    have hb := h.hb
    have hr := h.hr
    have hv := h.hv
    rw [spec_l6Search.l1]
    refine s_l2 hg hr (fun n n0 n8 => by have := h.hl n n0 n8; omega) _ (50 * (d + 1) + 1) l.length 0 (-1) 0 (by omega) (by omega) ?_ k (by omega)
    intro k hk
    obtain ⟨k, rfl⟩ : ∃ m, k = m + 1 := ⟨k - 1, by omega⟩
    rw [List.drop_zero, spec_l6Search.l2, if_neg (by omega), srch]
    by_cases c : (scan r l 0 (-1, 0)).1 < 0
    · rw [if_pos c, if_pos c]
    · rw [if_neg c, if_neg c]
      obtain ⟨j, h1, h2, h3, h4⟩ := scan_found c
      have st := inv_step hg h0 h h1 h3 h4
      have gc := hg.1 _ (rd104_mem l j h1)
      have f1 : 0 ≤ (rd_T104 l (j : Int)).f1 ∧ (rd_T104 l (j : Int)).f1 < 8 := gc.2.1
      rw [h2, if_pos (by omega), if_pos (by omega), if_pos f1.1, if_pos (by omega), if_pos (by omega)]
      exact ih _ _ _ st.1 (by omega) k (by omega)
theorem i_l0 {l : List S104} (hg : GP l) {src at' : Int} (h0 : 0 ≤ at') (d : Nat) : ∀ (r v : List Int) (last : Int), Inv l src at' r v last → unset r ≤ d → ∀ k, 50 * (d + 1) ≤ k → impl_reach.l0 k l r v = some (srch l d r v) := by
  have h20 := hg.2
  induction d with
  | zero =>
    intro r v last h hu k hk
    obtain ⟨k, rfl⟩ : ∃ m, k = m + 1 := ⟨k - 1, by omega⟩
    have hb := h.hb
    rw [impl_reach.l0]
    refine i_l1 hg h.hr (fun n n0 n8 => by have := h.hl n n0 n8; omega) _ 1 l.length 0 (-1) 0 (by omega) (by omega) ?_ k (by omega)
    intro k hk
    obtain ⟨k, rfl⟩ : ∃ m, k = m + 1 := ⟨k - 1, by omega⟩
    rw [List.drop_zero, impl_reach.l1, if_neg (by omega)]
    by_cases c : (scan r l 0 (-1, 0)).1 < 0
    · rw [if_pos c]
      rfl
    · obtain ⟨j, h1, h2, h3, h4⟩ := scan_found c
      have := (inv_step hg h0 h h1 h3 h4).2
      omega
  | succ d ih =>
    intro r v last h hu k hk
    obtain ⟨k, rfl⟩ : ∃ m, k = m + 1 := ⟨k - 1, by omega⟩
    have hb := h.hb
    have hr := h.hr
    have hv := h.hv
    rw [impl_reach.l0]
    refine i_l1 hg hr (fun n n0 n8 => by have := h.hl n n0 n8; omega) _ (50 * (d + 1) + 1) l.length 0 (-1) 0 (by omega) (by omega) ?_ k (by omega)
    intro k hk
    obtain ⟨k, rfl⟩ : ∃ m, k = m + 1 := ⟨k - 1, by omega⟩
    rw [List.drop_zero, impl_reach.l1, if_neg (by omega), srch]
    by_cases c : (scan r l 0 (-1, 0)).1 < 0
    · rw [if_pos c, if_pos c]
    · rw [if_neg c, if_neg c]
      obtain ⟨j, h1, h2, h3, h4⟩ := scan_found c
      have st := inv_step hg h0 h h1 h3 h4
      have gc := hg.1 _ (rd104_mem l j h1)
      have f1 : 0 ≤ (rd_T104 l (j : Int)).f1 ∧ (rd_T104 l (j : Int)).f1 < 8 := gc.2.1
      rw [h2, if_pos (by omega), if_pos (by omega), if_pos f1.1, if_pos (by omega), if_pos (by omega)]
      exact ih _ _ _ st.1 (by omega) k (by omega)
theorem s_l0 {l : List S104} {src at' : Int} (hs : 0 ≤ src ∧ src < 8) (R : List Int × List Int) (B : Nat) (h : ∀ k, B ≤ k → spec_l6Search.l1 k l (r0 src at') v0 = some R) (d : Nat) : ∀ i : Nat, 8 - i = d → i ≤ 8 → ∀ k, B + d + 1 ≤ k → spec_l6Search.l0 k l src at' (List.replicate i (-1)) (List.replicate i (-1)) (i : Int) = some R := by
  induction d with
  | zero =>
    intro i hd hi k hk
    obtain ⟨k, rfl⟩ : ∃ m, k = m + 1 := ⟨k - 1, by omega⟩
    have e : i = 8 := by omega
    subst e
    rw [spec_l6Search.l0, if_neg (by omega), if_pos hs.1, if_pos (by rw [List.length_replicate]; omega)]
    exact h k (by omega)
  | succ d ih =>
    intro i hd hi k hk
    obtain ⟨k, rfl⟩ : ∃ m, k = m + 1 := ⟨k - 1, by omega⟩
    rw [spec_l6Search.l0, if_pos (by omega), if_pos (by rw [List.length_replicate]; omega), if_pos (by rw [List.length_replicate]; omega), wrap_succ (n := 8) (by omega) (by omega), ← List.replicate_succ']
    exact ih (i + 1) (by omega) (by omega) k (by omega)
/-- What a search finds. -/
def found (l : List S104) (src at' : Int) : List Int × List Int := srch l 7 (r0 src at') v0
theorem ssearch_is {l : List S104} (hg : GP l) {src at' : Int} (hs : 0 ≤ src ∧ src < 8) (ha : 0 ≤ at' ∧ at' ≤ 1000) (k : Nat) (hk : 1000 ≤ k) : spec_l6Search.f k l src at' = some (found l src at') := by
  unfold spec_l6Search.f
  have := s_l0 (l := l) (src := src) (at' := at') hs (found l src at') 400 (fun k hk => s_l1 hg ha.1 7 _ _ _ (inv0 hg hs ha) (by rw [r0_unset src at' hs ha.1]; omega) k hk) 8 0 (by omega) (by omega) k (by omega)
  exact this
theorem ireach_is {l : List S104} (hg : GP l) {src at' : Int} (hs : 0 ≤ src ∧ src < 8) (ha : 0 ≤ at' ∧ at' ≤ 1000) (k : Nat) (hk : 1000 ≤ k) : impl_reach.f k l src at' = some (found l src at') := by
  unfold impl_reach.f
  have e : slices_Repeat_int_int.f ([(-1)] : List Int) 8 = some (List.replicate 8 (-1)) := by
    unfold slices_Repeat_int_int.f
    rw [if_pos (by omega), if_pos (by simp)]
    rfl
  rw [e, Option.bind_some, Option.bind_some, if_pos hs.1, if_pos (by rw [List.length_replicate]; omega)]
  exact i_l0 hg ha.1 7 _ _ _ (inv0 hg hs ha) (by rw [r0_unset src at' hs ha.1]; omega) k (by omega)

/-! The way back from a node, and its turning round. -/
theorem rd_app (a : List Int) (u : Int) (c : List Int) (j : Int) (hj : j = (a.length : Int)) : rd (a ++ u :: c) j = u := by
  subst hj
  unfold rd
  simp
theorem set_app (a : List Int) (u : Int) (c : List Int) (w : Int) (j : Int) (hj : j = (a.length : Int)) : (a ++ u :: c).set j.toNat w = a ++ w :: c := by
  subst hj
  rw [show ((a.length : Int)).toNat = a.length from rfl, List.set_append_right _ _ (Nat.le_refl _), Nat.sub_self]
  rfl
theorem rev_l0 (d : Nat) : ∀ (a m b : List Int) (k : Nat), m.length ≤ d → d < k → a.length + m.length + b.length ≤ 2000 →
    slices_Reverse_int_int.l0 k (a ++ (m ++ b)) (a.length : Int) ((a.length : Int) + (m.length : Int) - 1) = some (a ++ (m.reverse ++ b)) := by
  induction d with
  | zero =>
    intro a m b k hm hk hl
    obtain ⟨k, rfl⟩ : ∃ m, k = m + 1 := ⟨k - 1, by omega⟩
    rw [slices_Reverse_int_int.l0, if_neg (by omega), List.eq_nil_of_length_eq_zero (show m.length = 0 by omega), List.reverse_nil]
  | succ d ih =>
    intro a m b k hm hk hl
    obtain ⟨k, rfl⟩ : ∃ m, k = m + 1 := ⟨k - 1, by omega⟩
    match m, hm, hl with
    | [], _, _ => rw [slices_Reverse_int_int.l0, if_neg (by simp; omega), List.reverse_nil]
    | [u], _, _ => rw [slices_Reverse_int_int.l0, if_neg (by simp), List.reverse_singleton]
    | u :: w' :: c, hm, hl =>
      obtain ⟨m', w, e⟩ : ∃ m' w, w' :: c = m' ++ [w] := ⟨(w' :: c).dropLast, (w' :: c).getLast (by simp), (List.dropLast_concat_getLast (by simp)).symm⟩
      rw [e] at hm hl ⊢
      simp only [List.length_cons, List.length_append, List.length_nil] at hm hl
      have e1 : a ++ (u :: (m' ++ [w]) ++ b) = a ++ u :: (m' ++ w :: b) := by simp
      have e2 : ∀ z : Int, a ++ z :: (m' ++ w :: b) = (a ++ z :: m') ++ w :: b := by simp
      have el : ((u :: (m' ++ [w])).length : Int) = (m'.length : Int) + 2 := by simp only [List.length_cons, List.length_append, List.length_nil]; omega
      have ln : ((a ++ u :: (m' ++ w :: b)).length : Int) = a.length + m'.length + b.length + 2 := by simp only [List.length_cons, List.length_append]; omega
      have lz : ∀ z : Int, (a.length : Int) + ((m'.length : Int) + 2) - 1 = ((a ++ z :: m').length : Int) := fun z => by simp only [List.length_cons, List.length_append]; omega
      rw [slices_Reverse_int_int.l0, el, e1, if_pos (by omega), if_pos (by omega), if_pos (by omega), if_pos (by omega), if_pos (by omega), rd_app a u _ _ rfl, set_app a u _ _ _ rfl, wrap_in (by omega) (by omega), wrap_in (by omega) (by omega)]
      rw [e2 u, rd_app _ w b _ (lz u), e2 w, set_app _ w b _ _ (lz w)]
      have := ih (a ++ [w]) m' (u :: b) k (by omega) (by omega) (by simp only [List.length_cons, List.length_append, List.length_nil]; omega)
      rw [show (a ++ w :: m') ++ u :: b = (a ++ [w]) ++ (m' ++ u :: b) by simp, show (a.length : Int) + 1 = ((a ++ [w]).length : Int) by simp, show (a.length : Int) + ((m'.length : Int) + 2) - 1 - 1 = ((a ++ [w]).length : Int) + (m'.length : Int) - 1 by simp only [List.length_append, List.length_cons, List.length_nil]; omega, this]
      simp
theorem rev_is (x : List Int) (hx : x.length ≤ 2000) (k : Nat) (hk : 2000 < k) : slices_Reverse_int_int.f k x = some x.reverse := by
  unfold slices_Reverse_int_int.f
  rw [wrap_in (by omega) (by omega)]
  have := rev_l0 x.length [] x [] k (by omega) (by omega) (by simp; omega)
  simpa using this
theorem s_back {l : List S104} (hg : GP l) {src to' : Int} (ht : 0 ≤ to' ∧ to' < 8) {r v : List Int} (hr : r.length = 8) (hv : v.length = 8) {n : Int} {p : List Int} (hp : Pth l src r v n p) : ∀ (q : List Int) (k : Nat), p.length < k → p.length + q.length ≤ 1000 → spec_RouteTo.l0 k l src to' r v q n = some (p ++ q, rd r to', true) := by
  induction hp with
  | nil =>
    intro q k hk hl
    obtain ⟨k, rfl⟩ : ∃ m, k = m + 1 := ⟨k - 1, by simp at hk; omega⟩
    rw [spec_RouteTo.l0, if_pos rfl, if_pos ht.1, if_pos (by omega), List.nil_append]
  | @snoc n m p i h0 h1 h2 h3 h4 h5 h6 h7 h8 h9 h10 ih =>
    intro q k hk hl
    rw [List.length_append, List.length_singleton] at hk hl
    obtain ⟨k, rfl⟩ : ∃ m, k = m + 1 := ⟨k - 1, by omega⟩
    have gc := (hg.1 _ (rd104_mem l i h1)).2.1
    rw [h3] at gc
    rw [spec_RouteTo.l0, if_neg h4, if_pos h9, if_pos (by omega), h5, Option.bind_some, if_pos (by simp only [List.length_cons, List.length_nil]; omega), if_pos (by omega), if_pos (by omega), h2, ih _ k (by omega) (by simp only [List.length_append, List.length_cons, List.length_nil]; omega), List.append_assoc]
theorem i_back {l : List S104} (hg : GP l) {src to' : Int} (ht : 0 ≤ to' ∧ to' < 8) {r v : List Int} (hr : r.length = 8) (hv : v.length = 8) {n : Int} {p : List Int} (hp : Pth l src r v n p) : ∀ (q : List Int) (k : Nat), p.length + 3000 < k → p.length + q.length ≤ 1000 → impl_RouteTo.l0 k l src to' r v q n = some (p ++ q.reverse, rd r to', true) := by
  induction hp with
  | nil =>
    intro q k hk hl
    obtain ⟨k, rfl⟩ : ∃ m, k = m + 1 := ⟨k - 1, by simp at hk; omega⟩
    rw [impl_RouteTo.l0, if_pos rfl, rev_is q (by simp at hl; omega) k (by simp at hk; omega), Option.bind_some, if_pos ht.1, if_pos (by omega), List.nil_append]
  | @snoc n m p i h0 h1 h2 h3 h4 h5 h6 h7 h8 h9 h10 ih =>
    intro q k hk hl
    rw [List.length_append, List.length_singleton] at hk hl
    obtain ⟨k, rfl⟩ : ∃ m, k = m + 1 := ⟨k - 1, by omega⟩
    have gc := (hg.1 _ (rd104_mem l i h1)).2.1
    rw [h3] at gc
    rw [impl_RouteTo.l0, if_neg h4, if_pos h9, if_pos (by omega), h5, if_pos (by omega), if_pos (by omega), if_pos (by omega), h2, ih _ k (by omega) (by simp only [List.length_append, List.length_cons, List.length_nil]; omega), List.reverse_append, List.append_assoc]
    rfl
/-- What is told of a way: its first contact is open when one sets out; it is short. -/
def Way (l : List S104) (src at' : Int) (p : List Int) : Prop := GP l ∧ 0 ≤ at' ∧ at' ≤ 1000 ∧ p.length ≤ 7 ∧ ∀ i q, p = i :: q → 0 ≤ i ∧ i < (l.length : Int) ∧ (rd_T104 l i).f0 = src ∧ at' < (rd_T104 l i).f3
theorem route_is (l : List S104) (hn : l.length ≤ 1048576) (src at' to' : Int) : ∃ R : List Int × Int × Bool, (R.2.2 = true → Way l src at' R.1) ∧ ∀ k, 1048600 ≤ k → spec_RouteTo.f k l src at' to' = some R ∧ impl_RouteTo.f k l src at' to' = some R := by
  have no : ∀ k, 2 ≤ k → spec_RouteTo.j0 k l src at' to' true = some (([] : List Int), 0, false) ∧ impl_RouteTo.j0 k l src at' to' true = some (([] : List Int), 0, false) := by
    intro k hk
    obtain ⟨k, rfl⟩ : ∃ m, k = m + 1 := ⟨k - 1, by omega⟩
    rw [spec_RouteTo.j0, impl_RouteTo.j0, if_pos rfl, if_pos rfl]
    exact ⟨rfl, rfl⟩
  by_cases g : GP l ∧ (0 ≤ src ∧ src < 8) ∧ (0 ≤ at' ∧ at' ≤ 1000) ∧ (0 ≤ to' ∧ to' < 8)
  · obtain ⟨hg, hs, ha, ht⟩ := g
    obtain ⟨last, h⟩ := srch_inv hg ha.1 7 _ _ _ (inv0 hg hs ha)
    have hf : Inv l src at' (found l src at').1 (found l src at').2 last := h
    have hr := hf.hr
    have hv := hf.hv
    by_cases c : rd (found l src at').1 to' < 0
    · refine ⟨(([] : List Int), 0, false), fun q => (by cases q), fun k hk => ?_⟩
      unfold spec_RouteTo.f impl_RouteTo.f
      rw [splan_is l hn k (by omega), iplan_is l hn k (by omega), snode_is, inode_is, swhen_is, iwhen_is, snode_is, inode_is]
      obtain ⟨k, rfl⟩ : ∃ m, k = m + 1 := ⟨k - 1, by omega⟩
      rw [decide_eq_true hg, decide_eq_true hs, decide_eq_true ha, decide_eq_true ht]
      simp only [Option.bind_some, if_true]
      rw [spec_RouteTo.j0, impl_RouteTo.j0, if_neg (by decide), if_neg (by decide), ssearch_is hg hs ha k (by omega), ireach_is hg hs ha k (by omega), Option.bind_some, Option.bind_some, if_pos ht.1, if_pos (by omega), if_pos c, if_pos ht.1, if_pos (by omega), if_pos c]
      exact ⟨rfl, rfl⟩
    · obtain ⟨p, hp, pl⟩ := hf.hp to' ht.1 ht.2 (by omega)
      refine ⟨(p, rd (found l src at').1 to', true), fun _ => ⟨hg, ha.1, ha.2, by dsimp only; omega, fun i q e => ?_⟩, fun k hk => ?_⟩
      · have := pth_head hp i q e
        rw [hf.hs] at this
        exact this
      · unfold spec_RouteTo.f impl_RouteTo.f
        rw [splan_is l hn k (by omega), iplan_is l hn k (by omega), snode_is, inode_is, swhen_is, iwhen_is, snode_is, inode_is]
        obtain ⟨k, rfl⟩ : ∃ m, k = m + 1 := ⟨k - 1, by omega⟩
        rw [decide_eq_true hg, decide_eq_true hs, decide_eq_true ha, decide_eq_true ht]
        simp only [Option.bind_some, if_true]
        rw [spec_RouteTo.j0, impl_RouteTo.j0, if_neg (by decide), if_neg (by decide), ssearch_is hg hs ha k (by omega), ireach_is hg hs ha k (by omega), Option.bind_some, Option.bind_some, if_pos ht.1, if_pos (by omega), if_neg c, if_pos ht.1, if_pos (by omega), if_neg c, s_back hg ht hr hv hp [] k (by omega) (by simp; omega), i_back hg ht hr hv hp [] k (by omega) (by simp; omega)]
        simp
  · refine ⟨(([] : List Int), 0, false), fun q => (by cases q), fun k hk => ?_⟩
    unfold spec_RouteTo.f impl_RouteTo.f
    rw [splan_is l hn k (by omega), iplan_is l hn k (by omega), snode_is, inode_is, swhen_is, iwhen_is, snode_is, inode_is]
    simp only [Option.bind_some, decide_eq_true_eq]
    have nk := no k (by omega)
    by_cases c1 : GP l
    · rw [if_pos c1, if_pos c1]
      by_cases c2 : 0 ≤ src ∧ src < 8
      · rw [if_pos c2, if_pos c2]
        by_cases c3 : 0 ≤ at' ∧ at' ≤ 1000
        · rw [if_pos c3, if_pos c3, decide_eq_false (fun c4 => g ⟨c1, c2, c3, c4⟩)]
          exact nk
        · rw [if_neg c3, if_neg c3]
          exact nk
      · rw [if_neg c2, if_neg c2]
        exact nk
    · rw [if_neg c1, if_neg c1]
      exact nk

/-! A bundle that is one, and that fits a plan. -/
theorem text_ne (s : ByteArray) : (s.toList != ([] : List UInt8)) = decide (0 < (s.size : Int)) := by
  rw [Bool.eq_iff_iff, bne_iff_ne, decide_eq_true_eq, ByteArray.toList_eq]
  have e : s.size = s.data.toList.length := rfl
  rw [e]
  cases s.data.toList with
  | nil => simp
  | cons a l =>
    simp only [List.length_cons, ne_eq, reduceCtorEq, not_false_iff, true_iff]
    omega
def GB (a0 a1 a3 a4 a5 a6 a7 a8 n : Int) : Prop := (0 ≤ a0 ∧ a0 ≤ 40) ∧ (0 ≤ a1 ∧ a1 ≤ 40) ∧ (0 ≤ a3 ∧ a3 ≤ 1000000) ∧ (0 ≤ a4 ∧ a4 ≤ 1000) ∧ (1 ≤ a5 ∧ a5 ≤ 1000000) ∧ (0 ≤ a6 ∧ a6 ≤ 30) ∧ n ≤ 60 ∧ (0 ≤ a8 ∧ a8 ≤ 60) ∧ (0 ≤ a7 ∧ a7 ≤ a8) ∧ (a8 = 0 ∨ (0 < n ∧ a7 + n ≤ a8))
noncomputable instance (a0 a1 a3 a4 a5 a6 a7 a8 n : Int) : Decidable (GB a0 a1 a3 a4 a5 a6 a7 a8 n) := Classical.propDecidable _
theorem sgb_is (a0 a1 : Int) (b : Bool) (a3 a4 a5 a6 a7 a8 : Int) (s : ByteArray) : spec_GoodBundle.f a0 a1 b a3 a4 a5 a6 a7 a8 s = some (decide (GB a0 a1 a3 a4 a5 a6 a7 a8 (s.size : Int))) := by
  unfold spec_GoodBundle.f
  have hs : (0 : Int) ≤ (s.size : Int) := by omega
  generalize (s.size : Int) = n at hs
  simp only [sin_is, Option.bind_some, decide_eq_true_eq]
  have no : ¬ GB a0 a1 a3 a4 a5 a6 a7 a8 n → some false = some (decide (GB a0 a1 a3 a4 a5 a6 a7 a8 n)) := fun h => by rw [decide_eq_false h]
  have ye : GB a0 a1 a3 a4 a5 a6 a7 a8 n → some true = some (decide (GB a0 a1 a3 a4 a5 a6 a7 a8 n)) := fun h => by rw [decide_eq_true h]
  by_cases c1 : 0 ≤ a0 ∧ a0 ≤ 40
  · rw [if_pos c1]
    by_cases c2 : 0 ≤ a1 ∧ a1 ≤ 40
    · rw [if_pos c2]
      by_cases c3 : 0 ≤ a3 ∧ a3 ≤ 1000000
      · rw [if_pos c3]
        by_cases c4 : 0 ≤ a4 ∧ a4 ≤ 1000
        · rw [if_pos c4]
          by_cases c5 : 1 ≤ a5 ∧ a5 ≤ 1000000
          · rw [if_pos c5]
            by_cases c6 : 0 ≤ a6 ∧ a6 ≤ 30
            · rw [if_pos c6]
              by_cases c7 : n > 60
              · rw [if_pos c7]
                exact no fun h => by have := h.2.2.2.2.2.2.1; omega
              · rw [if_neg c7]
                by_cases c8 : 0 ≤ a8 ∧ a8 ≤ 60
                · rw [if_pos c8]
                  by_cases c9 : 0 ≤ a7 ∧ a7 ≤ a8
                  · rw [if_pos c9]
                    by_cases c10 : a8 = 0
                    · rw [if_pos c10]
                      exact ye ⟨c1, c2, c3, c4, c5, c6, by omega, c8, c9, Or.inl c10⟩
                    · rw [if_neg c10]
                      by_cases c11 : n > 0
                      · rw [if_pos c11, wrap_in (by omega) (by omega)]
                        exact congrArg some (decide_eq_decide.mpr ⟨fun h => ⟨c1, c2, c3, c4, c5, c6, by omega, c8, c9, Or.inr ⟨c11, h⟩⟩, fun h => by have := h.2.2.2.2.2.2.2.2.2; omega⟩)
                      · rw [if_neg c11]
                        exact no fun h => by have := h.2.2.2.2.2.2.2.2.2; omega
                  · rw [if_neg c9]
                    exact no fun h => c9 h.2.2.2.2.2.2.2.2.1
                · rw [if_neg c8]
                  exact no fun h => c8 h.2.2.2.2.2.2.2.1
            · rw [if_neg c6]
              exact no fun h => c6 h.2.2.2.2.2.1
          · rw [if_neg c5]
            exact no fun h => c5 h.2.2.2.2.1
        · rw [if_neg c4]
          exact no fun h => c4 h.2.2.2.1
      · rw [if_neg c3]
        exact no fun h => c3 h.2.2.1
    · rw [if_neg c2]
      exact no fun h => c2 h.2.1
  · rw [if_neg c1]
    exact no fun h => c1 h.1
theorem igb_is (a0 a1 : Int) (b : Bool) (a3 a4 a5 a6 a7 a8 : Int) (s : ByteArray) (k : Nat) (hk : 1 ≤ k) : impl_GoodBundle.f k a0 a1 b a3 a4 a5 a6 a7 a8 s = some (decide (GB a0 a1 a3 a4 a5 a6 a7 a8 (s.size : Int))) := by
  obtain ⟨k, rfl⟩ : ∃ m, k = m + 1 := ⟨k - 1, by omega⟩
  unfold impl_GoodBundle.f
  have hs : (0 : Int) ≤ (s.size : Int) := by omega
  simp only [impl_GoodBundle.j0, text_ne, iin_is, Option.bind_some, decide_eq_true_eq, if_true]
  generalize (s.size : Int) = n at hs
  have no : ¬ GB a0 a1 a3 a4 a5 a6 a7 a8 n → some false = some (decide (GB a0 a1 a3 a4 a5 a6 a7 a8 n)) := fun h => by rw [decide_eq_false h]
  by_cases c1 : 0 ≤ a0 ∧ a0 ≤ 40
  · rw [if_pos c1]
    by_cases c2 : 0 ≤ a1 ∧ a1 ≤ 40
    · rw [if_pos c2]
      by_cases c3 : 0 ≤ a3 ∧ a3 ≤ 1000000
      · rw [if_pos c3]
        by_cases c4 : 0 ≤ a4 ∧ a4 ≤ 1000
        · rw [if_pos c4]
          by_cases c5 : 1 ≤ a5 ∧ a5 ≤ 1000000
          · rw [if_pos c5]
            by_cases c6 : 0 ≤ a6 ∧ a6 ≤ 30
            · rw [if_pos c6]
              by_cases c7 : n > 60
              · rw [if_pos c7]
                exact no fun h => by have := h.2.2.2.2.2.2.1; omega
              · rw [if_neg c7]
                by_cases c10 : a8 = 0
                · rw [if_pos c10]
                  congr 1
                  rw [Bool.eq_iff_iff, beq_iff_eq, decide_eq_true_eq]
                  exact ⟨fun h => ⟨c1, c2, c3, c4, c5, c6, by omega, by omega, by omega, Or.inl c10⟩, fun h => by have := h.2.2.2.2.2.2.2.2.1; omega⟩
                · rw [if_neg c10]
                  by_cases c8 : 1 ≤ a8 ∧ a8 ≤ 60
                  · rw [if_pos c8, wrap_in (by omega) (by omega)]
                    by_cases c9 : 0 ≤ a7 ∧ a7 ≤ a8 - n
                    · rw [if_pos c9]
                      exact congrArg some (decide_eq_decide.mpr ⟨fun h => ⟨c1, c2, c3, c4, c5, c6, by omega, by omega, by omega, Or.inr ⟨h, by omega⟩⟩, fun h => by have := h.2.2.2.2.2.2.2.2.2; omega⟩)
                    · rw [if_neg c9]
                      exact no fun h => by have := h.2.2.2.2.2.2.2.2; omega
                  · rw [if_neg c8]
                    exact no fun h => by have := h.2.2.2.2.2.2.2.1; omega
            · rw [if_neg c6]
              exact no fun h => c6 h.2.2.2.2.2.1
          · rw [if_neg c5]
            exact no fun h => c5 h.2.2.2.2.1
        · rw [if_neg c4]
          exact no fun h => c4 h.2.2.2.1
      · rw [if_neg c3]
        exact no fun h => c3 h.2.2.1
    · rw [if_neg c2]
      exact no fun h => c2 h.2.1
  · rw [if_neg c1]
    exact no fun h => c1 h.1
def FT (l : List S104) (a0 a1 a3 a4 a5 a6 a7 a8 n : Int) : Prop := GP l ∧ GB a0 a1 a3 a4 a5 a6 a7 a8 n ∧ a8 = 0 ∧ (0 ≤ a0 ∧ a0 < 8) ∧ (0 ≤ a3 ∧ a3 ≤ 1000)
noncomputable instance (l : List S104) (a0 a1 a3 a4 a5 a6 a7 a8 n : Int) : Decidable (FT l a0 a1 a3 a4 a5 a6 a7 a8 n) := Classical.propDecidable _
theorem sfit_is (l : List S104) (hn : l.length ≤ 1048576) (a0 a1 : Int) (b : Bool) (a3 a4 a5 a6 a7 a8 : Int) (s : ByteArray) (k : Nat) (hk : 1048576 < k) : spec_l17Fits.f k l a0 a1 b a3 a4 a5 a6 a7 a8 s = some (decide (FT l a0 a1 a3 a4 a5 a6 a7 a8 (s.size : Int))) := by
  unfold spec_l17Fits.f
  rw [splan_is l hn k hk, sgb_is, snode_is, swhen_is]
  simp only [Option.bind_some, decide_eq_true_eq]
  generalize (s.size : Int) = n
  have no : ¬ FT l a0 a1 a3 a4 a5 a6 a7 a8 n → some false = some (decide (FT l a0 a1 a3 a4 a5 a6 a7 a8 n)) := fun h => by rw [decide_eq_false h]
  by_cases c1 : GP l
  · rw [if_pos c1]
    by_cases c2 : GB a0 a1 a3 a4 a5 a6 a7 a8 n
    · rw [if_pos c2]
      by_cases c3 : a8 = 0
      · rw [if_pos c3]
        by_cases c4 : 0 ≤ a0 ∧ a0 < 8
        · rw [if_pos c4]
          exact congrArg some (decide_eq_decide.mpr ⟨fun h => ⟨c1, c2, c3, c4, h⟩, fun h => h.2.2.2.2⟩)
        · rw [if_neg c4]
          exact no fun h => c4 h.2.2.2.1
      · rw [if_neg c3]
        exact no fun h => c3 h.2.2.1
    · rw [if_neg c2]
      exact no fun h => c2 h.2.1
  · rw [if_neg c1]
    exact no fun h => c1 h.1
theorem ifit_is (l : List S104) (hn : l.length ≤ 1048576) (a0 a1 : Int) (b : Bool) (a3 a4 a5 a6 a7 a8 : Int) (s : ByteArray) (k : Nat) (hk : 1048576 < k) : impl_fits.f k l a0 a1 b a3 a4 a5 a6 a7 a8 s = some (decide (FT l a0 a1 a3 a4 a5 a6 a7 a8 (s.size : Int))) := by
  unfold impl_fits.f
  rw [iplan_is l hn k hk, igb_is _ _ _ _ _ _ _ _ _ _ k (by omega), inode_is, iwhen_is]
  simp only [Option.bind_some, decide_eq_true_eq]
  generalize (s.size : Int) = n
  have no : ¬ FT l a0 a1 a3 a4 a5 a6 a7 a8 n → some false = some (decide (FT l a0 a1 a3 a4 a5 a6 a7 a8 n)) := fun h => by rw [decide_eq_false h]
  by_cases c1 : GP l
  · rw [if_pos c1]
    by_cases c2 : GB a0 a1 a3 a4 a5 a6 a7 a8 n
    · rw [if_pos c2]
      by_cases c3 : a8 = 0
      · rw [if_pos c3]
        by_cases c4 : 0 ≤ a0 ∧ a0 < 8
        · rw [if_pos c4]
          exact congrArg some (decide_eq_decide.mpr ⟨fun h => ⟨c1, c2, c3, c4, h⟩, fun h => h.2.2.2.2⟩)
        · rw [if_neg c4]
          exact no fun h => c4 h.2.2.2.1
      · rw [if_neg c3]
        exact no fun h => c3 h.2.2.1
    · rw [if_neg c2]
      exact no fun h => c2 h.2.1
  · rw [if_neg c1]
    exact no fun h => c1 h.1

/-! A plan handed over is the same plan. -/
def cv (c : S125) : S104 := ⟨c.f0, c.f1, c.f2, c.f3, c.f4⟩
theorem drop125 (l : List S125) (i : Nat) (h : i < l.length) : l.drop i = rd_T125 l (i : Int) :: l.drop (i + 1) := by
  rw [List.drop_eq_getElem_cons h]
  unfold rd_T125
  simp [List.getD_eq_getElem?_getD, List.getElem?_eq_getElem h]
theorem toC_l0 (a : List S125) (hn : a.length ≤ 1048576) (d : Nat) : ∀ (k i : Nat) (x : List S104), a.length - i = d → i ≤ a.length → x.length = a.length → d < k → laws_toContactS.l0 k a x (i : Int) = some (x.take i ++ (a.drop i).map cv) := by
  induction d with
  | zero =>
    intro k i x hd hi hx hk
    obtain ⟨k, rfl⟩ : ∃ m, k = m + 1 := ⟨k - 1, by omega⟩
    rw [laws_toContactS.l0, if_neg (by omega), List.take_of_length_le (by omega), List.drop_of_length_le (by omega), List.map_nil, List.append_nil]
  | succ d ih =>
    intro k i x hd hi hx hk
    obtain ⟨k, rfl⟩ : ∃ m, k = m + 1 := ⟨k - 1, by omega⟩
    rw [laws_toContactS.l0, if_pos (by omega), if_pos (by omega)]
    unfold laws_toContact.f
    rw [Option.bind_some, if_pos (by omega), wrap_succ (n := a.length) (by omega) (by omega), ih k (i + 1) _ (by omega) (by omega) (by rw [List.length_set]; exact hx) (by omega), drop125 a i (by omega), List.map_cons]
    have hi' : i < x.length := by omega
    rw [show (i : Int).toNat = i from rfl, List.take_add_one, List.take_set_of_le (Nat.le_refl i), List.getElem?_set_self hi', List.append_assoc]
    rfl
theorem toC_is (a : List S125) (hn : a.length ≤ 1048576) (k : Nat) (hk : a.length < k) : laws_toContactS.f k a = some (a.map cv) := by
  unfold laws_toContactS.f
  rw [if_pos (by omega), if_pos (by omega)]
  have := toC_l0 a hn a.length k 0 (List.replicate a.length z104) (by omega) (by omega) (by simp) hk
  simpa using this
theorem eqC_l0 (a : List S104) (hn : a.length ≤ 1048576) (d : Nat) : ∀ (k i : Nat), a.length - i = d → d < k → laws_eqContactS.l0 k a a (i : Int) = some true := by
  induction d with
  | zero =>
    intro k i hd hk
    obtain ⟨k, rfl⟩ : ∃ m, k = m + 1 := ⟨k - 1, by omega⟩
    rw [laws_eqContactS.l0, if_neg (by omega)]
  | succ d ih =>
    intro k i hd hk
    obtain ⟨k, rfl⟩ : ∃ m, k = m + 1 := ⟨k - 1, by omega⟩
    rw [laws_eqContactS.l0, if_pos (by omega), if_pos (by omega), if_pos (by omega)]
    unfold laws_eqContact.f
    rw [if_pos rfl, if_pos rfl, if_pos rfl, if_pos rfl, if_pos rfl, Option.bind_some, if_pos rfl, wrap_succ (n := a.length) (by omega) (by omega)]
    exact ih k (i + 1) (by omega) (by omega)
theorem eqC_same (a : List S104) (hn : a.length ≤ 1048576) (k : Nat) (hk : a.length < k) : laws_eqContactS.f k a a = some true := by
  unfold laws_eqContactS.f
  rw [if_pos rfl]
  exact eqC_l0 a hn a.length k 0 (by omega) hk

theorem eqIntS_l0 (a : List Int) (hn : a.length ≤ 9223372036854775807) (d : Nat) : ∀ (k i : Nat), a.length - i = d → d < k → laws_eqIntS.l0 k a a (i : Int) = some true := by
  induction d with
  | zero =>
    intro k i hd hk
    obtain ⟨k, rfl⟩ : ∃ m, k = m + 1 := ⟨k - 1, by omega⟩
    simp only [laws_eqIntS.l0]
    rw [if_neg (by omega)]
  | succ d ih =>
    intro k i hd hk
    obtain ⟨k, rfl⟩ : ∃ m, k = m + 1 := ⟨k - 1, by omega⟩
    simp only [laws_eqIntS.l0]
    rw [if_pos (by omega), if_pos (by omega), if_pos (by omega), if_pos trivial, wrap_succ (n := a.length) (by omega) hn]
    exact ih k (i + 1) (by omega) (by omega)
theorem eqIntS_same (a : List Int) (hn : a.length ≤ 9223372036854775807) (k : Nat) (hk : a.length < k) : laws_eqIntS.f k a a = some true := by
  unfold laws_eqIntS.f
  rw [if_pos rfl]
  exact eqIntS_l0 a hn a.length k 0 (by omega) hk

theorem markIntS_l0 (d : Nat) : ∀ (k i : Nat) (x : List Int) (m : Int), x.length ≤ 9223372036854775807 → x.length - i = d → i ≤ x.length → d < k → 0 ≤ m → m + d ≤ 9223372036854775807 →
    laws_markIntS.l0 k x m (i : Int) = some (m + d, x.take i ++ (List.range d).map (fun j : Nat => m + j)) := by
  induction d with
  | zero =>
    intro k i x m hn hd hi hk h0 h1
    obtain ⟨k, rfl⟩ : ∃ m, k = m + 1 := ⟨k - 1, by omega⟩
    simp only [laws_markIntS.l0]
    rw [if_neg (by omega), List.take_of_length_le (by omega)]
    simp
  | succ d ih =>
    intro k i x m hn hd hi hk h0 h1
    obtain ⟨k, rfl⟩ : ∃ m, k = m + 1 := ⟨k - 1, by omega⟩
    simp only [laws_markIntS.l0]
    rw [if_pos (by omega), if_pos (by omega), wrap_succ (n := x.length) (by omega) hn, wrap_in (by omega) (by omega),
      ih k (i + 1) (x.set (i : Int).toNat m) (m + 1) (by simpa using hn) (by rw [List.length_set]; omega) (by rw [List.length_set]; omega) (by omega) (by omega) (by omega)]
    have hi' : i < x.length := by omega
    have e1 : (x.set i m).take (i + 1) = x.take i ++ [m] := by
      rw [List.take_add_one, List.take_set_of_le (Nat.le_refl i), List.getElem?_set_self hi']
      rfl
    rw [show (i : Int).toNat = i from rfl, e1, List.range_succ_eq_map, List.map_cons, List.map_map]
    simp only [List.append_assoc, List.cons_append, List.nil_append]
    congr 1
    refine Prod.ext (by simp; omega) ?_
    simp only [Function.comp_def]
    congr 1
    congr 1
    · simp
    · exact List.map_congr_left fun j _ => by simp; omega
theorem markIntS_is (x : List Int) (m : Int) (k : Nat) (hn : x.length ≤ 1000000000000) (hk : x.length < k) (h0 : 0 ≤ m) (h1 : m ≤ 1000000000000000) :
    laws_markIntS.f k x m = some (m + x.length, (List.range x.length).map (fun j : Nat => m + j)) := by
  unfold laws_markIntS.f
  have := markIntS_l0 x.length k 0 x m (by omega) (by omega) (by omega) hk h0 (by omega)
  simpa using this

theorem heldIntS_l0 (d : Nat) : ∀ (k i : Nat) (x : List Int) (m : Int), x.length ≤ 9223372036854775807 → x.length - i = d → i ≤ x.length → d < k → 0 ≤ m → m + d ≤ 9223372036854775807 →
    (∀ j : Nat, j < d → x.getD (i + j) 0 = m + j) → laws_heldIntS.l0 k x m (i : Int) = some (m + d) := by
  induction d with
  | zero =>
    intro k i x m hn hd hi hk h0 h1 hx
    obtain ⟨k, rfl⟩ : ∃ m, k = m + 1 := ⟨k - 1, by omega⟩
    simp only [laws_heldIntS.l0]
    rw [if_neg (by omega)]
    simp
  | succ d ih =>
    intro k i x m hn hd hi hk h0 h1 hx
    obtain ⟨k, rfl⟩ : ∃ m, k = m + 1 := ⟨k - 1, by omega⟩
    simp only [laws_heldIntS.l0]
    have e := hx 0 (by omega)
    rw [if_pos (by omega), if_pos (by omega), if_pos (by unfold rd; simpa using e), wrap_succ (n := x.length) (by omega) hn, wrap_in (by omega) (by omega),
      ih k (i + 1) x (m + 1) hn (by omega) (by omega) (by omega) (by omega) (by omega) (fun j hj => by have := hx (j + 1) (by omega); rw [show i + 1 + j = i + (j + 1) by omega, this]; omega)]
    congr 1
    omega
theorem heldIntS_is (n : Nat) (m : Int) (k : Nat) (hn : n ≤ 1000000000000) (hk : n < k) (h0 : 0 ≤ m) (h1 : m ≤ 1000000000000000) :
    laws_heldIntS.f k ((List.range n).map (fun j : Nat => m + j)) m = some (m + n) := by
  unfold laws_heldIntS.f
  have := heldIntS_l0 n k 0 ((List.range n).map (fun j : Nat => m + j)) m (by simp; omega) (by simp) (by simp) hk h0 (by omega) (fun j hj => by
    simp [List.getD_eq_getElem?_getD, List.getElem?_range hj])
  simpa using this

theorem toIntS_l0 (a : List Int) (hn : a.length ≤ 9223372036854775807) (d : Nat) : ∀ (k i : Nat) (x : List Int), a.length - i = d → i ≤ a.length → x.length = a.length → d < k → laws_toIntS.l0 k a x (i : Int) = some (x.take i ++ a.drop i) := by
  induction d with
  | zero =>
    intro k i x hd hi hx hk
    obtain ⟨k, rfl⟩ : ∃ m, k = m + 1 := ⟨k - 1, by omega⟩
    simp only [laws_toIntS.l0]
    rw [if_neg (by omega), List.take_of_length_le (by omega), List.drop_of_length_le (by omega), List.append_nil]
  | succ d ih =>
    intro k i x hd hi hx hk
    obtain ⟨k, rfl⟩ : ∃ m, k = m + 1 := ⟨k - 1, by omega⟩
    simp only [laws_toIntS.l0]
    rw [if_pos (by omega), if_pos (by omega), if_pos (by omega), wrap_succ (n := a.length) (by omega) hn, ih k (i + 1) _ (by omega) (by omega) (by rw [List.length_set]; exact hx) (by omega)]
    have hi' : i < x.length := by omega
    have hia : i < a.length := by omega
    have e1 : (x.set (i : Int).toNat (rd a (i : Int))).take (i + 1) = x.take i ++ [rd a (i : Int)] := by
      rw [show (i : Int).toNat = i from rfl, List.take_add_one, List.take_set_of_le (Nat.le_refl i), List.getElem?_set_self hi']
      rfl
    have e2 : a.drop i = rd a (i : Int) :: a.drop (i + 1) := by
      rw [List.drop_eq_getElem_cons hia]
      unfold rd
      simp [List.getD_eq_getElem?_getD, List.getElem?_eq_getElem hia]
    rw [e1, e2]
    simp
theorem toIntS_is (a : List Int) (hn : a.length ≤ 35184372088832) (k : Nat) (hk : a.length < k) : laws_toIntS.f k a = some a := by
  unfold laws_toIntS.f
  rw [if_pos (by omega), if_pos (by simpa using hn)]
  have := toIntS_l0 a (by omega) a.length k 0 (List.replicate a.length 0) (by omega) (by omega) (by simp) hk
  simpa using this

theorem markC_l0 (d : Nat) : ∀ (k i : Nat) (x : List S104) (m : Int), x.length ≤ 1048576 → x.length - i = d → i ≤ x.length → d < k → 0 ≤ m → m + 5 * d ≤ 1000000000000 → ∃ y, laws_markContactS.l0 k x m (i : Int) = some (m + 5 * d, y) := by
  induction d with
  | zero =>
    intro k i x m hn hd hi hk h0 h1
    obtain ⟨k, rfl⟩ : ∃ m, k = m + 1 := ⟨k - 1, by omega⟩
    refine ⟨x, ?_⟩
    rw [laws_markContactS.l0, if_neg (by omega)]
    simp
  | succ d ih =>
    intro k i x m hn hd hi hk h0 h1
    obtain ⟨k, rfl⟩ : ∃ m, k = m + 1 := ⟨k - 1, by omega⟩
    rw [laws_markContactS.l0, if_pos (by omega), if_pos (by omega), Option.bind_some, Option.bind_some, Option.bind_some, Option.bind_some, wrap_succ (n := x.length) (by omega) (by omega), wrap_in (x := m + 1) (by omega) (by omega), wrap_in (x := m + 1 + 1) (by omega) (by omega), wrap_in (x := m + 1 + 1 + 1) (by omega) (by omega), wrap_in (x := m + 1 + 1 + 1 + 1) (by omega) (by omega), wrap_in (x := m + 1 + 1 + 1 + 1 + 1) (by omega) (by omega)]
    have h5 : ∀ Z : List S104, Z.length = x.length → ∃ y, laws_markContactS.l0 k Z (m + 1 + 1 + 1 + 1 + 1) ((i + 1 : Nat) : Int) = some (m + 5 * ((d + 1 : Nat) : Int), y) := by
      intro Z hZ
      obtain ⟨y, e⟩ := ih k (i + 1) Z (m + 1 + 1 + 1 + 1 + 1) (by omega) (by omega) (by omega) (by omega) (by omega) (by omega)
      refine ⟨y, ?_⟩
      rw [e]
      congr 2
      omega
    exact h5 _ (by simp only [List.length_set])
theorem markC_is (x : List S104) (hn : x.length ≤ 1048576) (k : Nat) (hk : x.length < k) : ∃ r y, 0 ≤ r ∧ r ≤ 10000000 ∧ laws_markContactS.f k x 1 = some (r, y) := by
  unfold laws_markContactS.f
  obtain ⟨y, e⟩ := markC_l0 x.length k 0 x 1 hn (by omega) (by omega) hk (by omega) (by omega)
  exact ⟨_, y, by omega, by omega, e⟩

/-! Who is reached in time. -/
theorem rise_l0 (x : List Int) (hn : x.length ≤ 1048576) (d : Nat) : ∀ i : Nat, x.length - i = d → i ≤ x.length → ∃ b : Bool, ∀ k, d < k → spec_l1Some.l0 k x 8 x (x.length : Int) (i : Int) = some b ∧ impl_rise.l0 k x 8 x (x.length : Int) (i : Int) = some b := by
  induction d with
  | zero =>
    intro i hd hi
    refine ⟨true, fun k hk => ?_⟩
    obtain ⟨k, rfl⟩ : ∃ m, k = m + 1 := ⟨k - 1, by omega⟩
    have c : ¬ (i : Int) < (x.length : Int) := by omega
    rw [spec_l1Some.l0, impl_rise.l0, if_neg c, if_neg c]
    exact ⟨by first | trivial | rfl, by first | trivial | rfl⟩
  | succ d ih =>
    intro i hd hi
    have c : (i : Int) < (x.length : Int) := by omega
    have c0 : 0 ≤ (i : Int) := by omega
    have wr : wrap64 ((i : Int) + 1) = ((i + 1 : Nat) : Int) := wrap_succ (n := x.length) (by omega) (by omega)
    obtain ⟨b, e⟩ := ih (i + 1) (by omega) (by omega)
    by_cases c1 : rd x (i : Int) < 0
    · refine ⟨false, fun k hk => ?_⟩
      obtain ⟨k, rfl⟩ : ∃ m, k = m + 1 := ⟨k - 1, by omega⟩
      rw [spec_l1Some.l0, impl_rise.l0, if_pos c, if_pos c, if_pos c0, if_pos c0, if_pos c, if_pos c, if_pos c1, if_pos c1]
      exact ⟨by first | trivial | rfl, by first | trivial | rfl⟩
    · by_cases c2 : rd x (i : Int) ≥ 8
      · refine ⟨false, fun k hk => ?_⟩
        obtain ⟨k, rfl⟩ : ∃ m, k = m + 1 := ⟨k - 1, by omega⟩
        rw [spec_l1Some.l0, impl_rise.l0, if_pos c, if_pos c, if_pos c0, if_pos c0, if_pos c, if_pos c, if_neg c1, if_neg c1, if_pos c2, if_pos c2]
        exact ⟨by first | trivial | rfl, by first | trivial | rfl⟩
      · by_cases c3 : (i : Int) > 0
        · have w1 : wrap64 ((i : Int) - 1) = (i : Int) - 1 := wrap_in (by omega) (by omega)
          have c4 : 0 ≤ (i : Int) - 1 := by omega
          have c5 : (i : Int) - 1 < (x.length : Int) := by omega
          by_cases c6 : rd x ((i : Int) - 1) ≥ rd x (i : Int)
          · refine ⟨false, fun k hk => ?_⟩
            obtain ⟨k, rfl⟩ : ∃ m, k = m + 1 := ⟨k - 1, by omega⟩
            have c6' : rd x (i : Int) ≤ rd x ((i : Int) - 1) := c6
            rw [spec_l1Some.l0, impl_rise.l0, if_pos c, if_pos c, if_pos c0, if_pos c0, if_pos c, if_pos c, if_neg c1, if_neg c1, if_neg c2, if_neg c2, if_pos c3, if_pos c3, w1, if_pos c4, if_pos c4, if_pos c5, if_pos c5, if_pos c6, if_pos c6']
            exact ⟨by first | trivial | rfl, by first | trivial | rfl⟩
          · refine ⟨b, fun k hk => ?_⟩
            obtain ⟨k, rfl⟩ : ∃ m, k = m + 1 := ⟨k - 1, by omega⟩
            have c6' : ¬ rd x (i : Int) ≤ rd x ((i : Int) - 1) := c6
            rw [spec_l1Some.l0, impl_rise.l0, if_pos c, if_pos c, if_pos c0, if_pos c0, if_pos c, if_pos c, if_neg c1, if_neg c1, if_neg c2, if_neg c2, if_pos c3, if_pos c3, w1, if_pos c4, if_pos c4, if_pos c5, if_pos c5, if_neg c6, if_neg c6', wr]
            exact e k (by omega)
        · refine ⟨b, fun k hk => ?_⟩
          obtain ⟨k, rfl⟩ : ∃ m, k = m + 1 := ⟨k - 1, by omega⟩
          rw [spec_l1Some.l0, impl_rise.l0, if_pos c, if_pos c, if_pos c0, if_pos c0, if_pos c, if_pos c, if_neg c1, if_neg c1, if_neg c2, if_neg c2, if_neg c3, if_neg c3, wr]
          exact e k (by omega)
theorem rise_is (x : List Int) (hn : x.length ≤ 1048576) : ∃ b : Bool, ∀ k, 1048577 < k → spec_l1Some.f k x 8 = some b ∧ impl_areMembers.f k x = some b := by
  obtain ⟨b, e⟩ := rise_l0 x hn x.length 0 (by omega) (by omega)
  refine ⟨b, fun k hk => ?_⟩
  unfold spec_l1Some.f impl_areMembers.f impl_rise.f
  have h := e k (by omega)
  exact ⟨h.1, by rw [show (0 : Int) = ((0 : Nat) : Int) from rfl, h.2]; rfl⟩

theorem all_l0 (l : List S104) (hn : l.length ≤ 1048576) (x : List Int) (hx : x.length ≤ 1048576) (a0 a1 : Int) (b : Bool) (a3 a4 a5 a6 a7 a8 : Int) (s : ByteArray) (d : Nat) : ∀ (i : Nat) (acc : List S157), x.length - i = d → i ≤ x.length → acc.length + d ≤ 1048576 → (∀ z ∈ acc, z.f2.length ≤ 7) →
    ∃ Q : List S157, Q.length ≤ acc.length + d ∧ (∀ z ∈ Q, z.f2.length ≤ 7) ∧ ∀ k, 1048700 + d < k → spec_l17Reach.l0 k l acc x (x.length : Int) (i : Int) a0 a1 b a3 a4 a5 a6 a7 a8 s = some Q ∧ impl_ReachAll.l0 k l acc x (x.length : Int) (i : Int) a0 a1 b a3 a4 a5 a6 a7 a8 s = some (Q, true) := by
  induction d with
  | zero =>
    intro i acc hd hi ha hz
    refine ⟨acc, by omega, hz, fun k hk => ?_⟩
    obtain ⟨k, rfl⟩ : ∃ m, k = m + 1 := ⟨k - 1, by omega⟩
    have c : ¬ (i : Int) < (x.length : Int) := by omega
    rw [spec_l17Reach.l0, impl_ReachAll.l0, if_neg c, if_neg c]
    exact ⟨by first | trivial | rfl, by first | trivial | rfl⟩
  | succ d ih =>
    intro i acc hd hi ha hz
    have c : (i : Int) < (x.length : Int) := by omega
    have c0 : 0 ≤ (i : Int) := by omega
    have wr : wrap64 ((i : Int) + 1) = ((i + 1 : Nat) : Int) := wrap_succ (n := x.length) (by omega) (by omega)
    obtain ⟨P, hw, p⟩ := route_is l hn a0 a3 (rd x (i : Int))
    have cl : acc.length < 3518437208883 := by omega
    by_cases g : P.2.2 = true ∧ P.2.1 ≤ wrap64 (a3 + a5) ∧ (P.1.length : Int) ≤ a6
    · obtain ⟨Q, hQ, hz', q⟩ := ih (i + 1) (acc ++ [(⟨rd x (i : Int), P.2.1, P.1⟩ : S157)]) (by omega) (by omega) (by rw [List.length_append, List.length_singleton]; omega) (fun z hm => (List.mem_append.1 hm).elim (hz z) (fun h => by rw [List.mem_singleton] at h; subst h; exact (hw g.1).2.2.2.1))
      refine ⟨Q, by rw [List.length_append, List.length_singleton] at hQ; omega, hz', fun k hk => ?_⟩
      obtain ⟨k, rfl⟩ : ∃ m, k = m + 1 := ⟨k - 1, by omega⟩
      rw [spec_l17Reach.l0, impl_ReachAll.l0, if_pos c, if_pos c, if_pos c0, if_pos c0, if_pos c, if_pos c, (p k (by omega)).1, (p k (by omega)).2, Option.bind_some, Option.bind_some, if_pos g.1, if_pos g.1, if_pos g.2.1, if_pos g.2.1, if_pos g.2.2, if_pos g.2.2, if_pos cl, if_pos cl, wr]
      exact q k (by omega)
    · obtain ⟨Q, hQ, hz', q⟩ := ih (i + 1) acc (by omega) (by omega) (by omega) hz
      refine ⟨Q, by omega, hz', fun k hk => ?_⟩
      obtain ⟨k, rfl⟩ : ∃ m, k = m + 1 := ⟨k - 1, by omega⟩
      rw [spec_l17Reach.l0, impl_ReachAll.l0, if_pos c, if_pos c, if_pos c0, if_pos c0, if_pos c, if_pos c, (p k (by omega)).1, (p k (by omega)).2, Option.bind_some, Option.bind_some, wr]
      by_cases g1 : P.2.2 = true
      · rw [if_pos g1, if_pos g1]
        by_cases g2 : P.2.1 ≤ wrap64 (a3 + a5)
        · rw [if_pos g2, if_pos g2]
          by_cases g3 : (P.1.length : Int) ≤ a6
          · exact absurd ⟨g1, g2, g3⟩ g
          · rw [if_neg g3, if_neg g3]
            exact q k (by omega)
        · rw [if_neg g2, if_neg g2]
          exact q k (by omega)
      · rw [if_neg g1, if_neg g1]
        exact q k (by omega)

/-! Rows of reaches: marked, held, the same. -/
theorem rd157_mem (l : List S157) (i : Nat) (h : i < l.length) : rd_T157 l (i : Int) ∈ l := by
  unfold rd_T157
  rw [show ((i : Int)).toNat = i from rfl, List.getD_eq_getElem?_getD, List.getElem?_eq_getElem h]
  exact List.getElem_mem h
theorem drop157 (l : List S157) (i : Nat) (h : i < l.length) : l.drop i = rd_T157 l (i : Int) :: l.drop (i + 1) := by
  rw [List.drop_eq_getElem_cons h]
  unfold rd_T157
  simp [List.getD_eq_getElem?_getD, List.getElem?_eq_getElem h]
def totR : List S157 → Nat
  | [] => 0
  | c :: cs => 2 + c.f2.length + totR cs
def mkdR : Int → List S157 → List S157
  | _, [] => []
  | m, c :: cs => ⟨m, m + 1, (List.range c.f2.length).map (fun j : Nat => m + 2 + j)⟩ :: mkdR (m + 2 + c.f2.length) cs
theorem eqR_l0 (x : List S157) (hn : x.length ≤ 1048576) (hx : ∀ c ∈ x, c.f2.length ≤ 1048576) (d : Nat) : ∀ (k i : Nat), x.length - i = d → 1048577 + d < k → laws_eqReachS.l0 k x x (i : Int) = some true := by
  induction d with
  | zero =>
    intro k i hd hk
    obtain ⟨k, rfl⟩ : ∃ m, k = m + 1 := ⟨k - 1, by omega⟩
    rw [laws_eqReachS.l0, if_neg (by omega)]
  | succ d ih =>
    intro k i hd hk
    obtain ⟨k, rfl⟩ : ∃ m, k = m + 1 := ⟨k - 1, by omega⟩
    have := hx _ (rd157_mem x i (by omega))
    rw [laws_eqReachS.l0, if_pos (by omega), if_pos (by omega), if_pos (by omega)]
    unfold laws_eqReach.f
    rw [if_pos rfl, if_pos rfl, eqIntS_same _ (by omega) k (by omega), Option.bind_some, if_pos rfl, Option.bind_some, if_pos rfl, wrap_succ (n := x.length) (by omega) (by omega)]
    exact ih k (i + 1) (by omega) (by omega)
theorem eqR_same (x : List S157) (hn : x.length ≤ 1048576) (hx : ∀ c ∈ x, c.f2.length ≤ 1048576) (k : Nat) (hk : 2097154 < k) : laws_eqReachS.f k x x = some true := by
  unfold laws_eqReachS.f
  rw [if_pos rfl]
  exact eqR_l0 x hn hx x.length k 0 (by omega) (by omega)
theorem markR_l0 (d : Nat) : ∀ (k i : Nat) (x : List S157) (m : Int), x.length ≤ 1048576 → (∀ c ∈ x, c.f2.length ≤ 1048576) → x.length - i = d → i ≤ x.length → 1048577 + d < k → 0 ≤ m → m + totR (x.drop i) ≤ 1000000000000000 → laws_markReachS.l0 k x m (i : Int) = some (m + totR (x.drop i), x.take i ++ mkdR m (x.drop i)) := by
  induction d with
  | zero =>
    intro k i x m hn hx hd hi hk h0 h1
    obtain ⟨k, rfl⟩ : ∃ m, k = m + 1 := ⟨k - 1, by omega⟩
    rw [laws_markReachS.l0, if_neg (by omega), List.drop_of_length_le (by omega), List.take_of_length_le (by omega)]
    simp [totR, mkdR]
  | succ d ih =>
    intro k i x m hn hx hd hi hk h0 h1
    obtain ⟨k, rfl⟩ : ∃ m, k = m + 1 := ⟨k - 1, by omega⟩
    have hc := hx _ (rd157_mem x i (by omega))
    rw [drop157 x i (by omega), totR] at h1
    rw [laws_markReachS.l0, if_pos (by omega), if_pos (by omega), drop157 x i (by omega), totR, mkdR]
    generalize hcc : rd_T157 x (i : Int) = c at *
    rw [wrap_in (x := m + 1) (by omega) (by omega), wrap_in (x := m + 1 + 1) (by omega) (by omega), show m + 1 + 1 = m + 2 by omega, markIntS_is c.f2 (m + 2) k (by omega) (by omega) (by omega) (by omega), Option.bind_some]
    dsimp only
    rw [wrap_succ (n := x.length) (by omega) (by omega), show ((i : Int)).toNat = i from rfl]
    have hd2 : (x.set i (⟨m, m + 1, (List.range c.f2.length).map (fun j : Nat => m + 2 + j)⟩ : S157)).drop (i + 1) = x.drop (i + 1) := List.drop_set_of_lt (by omega)
    have go := ih k (i + 1) (x.set i (⟨m, m + 1, (List.range c.f2.length).map (fun j : Nat => m + 2 + j)⟩ : S157)) (m + 2 + c.f2.length) (by rw [List.length_set]; exact hn) (fun y hy => by
      rcases List.mem_or_eq_of_mem_set hy with h | h
      · exact hx y h
      · rw [h]
        simpa using hc) (by rw [List.length_set]; omega) (by rw [List.length_set]; omega) (by omega) (by omega) (by rw [hd2]; omega)
    rw [go, hd2, List.take_add_one, List.take_set_of_le (Nat.le_refl i), List.getElem?_set_self (by omega), List.append_assoc]
    congr 1
    refine Prod.ext ?_ ?_
    · dsimp only
      omega
    · dsimp only
      rfl
theorem heldR_l0 (cs : List S157) : ∀ (k i : Nat) (y : List S157) (m : Int), y.length ≤ 1048576 → (∀ c ∈ cs, c.f2.length ≤ 1048576) → y.drop i = mkdR m cs → y.length = i + cs.length → 1048577 + cs.length < k → 0 ≤ m → m + totR cs ≤ 1000000000000000 → laws_heldReachS.l0 k y m (i : Int) = some (m + totR cs) := by
  induction cs with
  | nil =>
    intro k i y m hn hx hy hl hk h0 h1
    obtain ⟨k, rfl⟩ : ∃ m, k = m + 1 := ⟨k - 1, by omega⟩
    simp only [List.length_nil] at hl
    rw [laws_heldReachS.l0, if_neg (by omega)]
    simp [totR]
  | cons c cs ih =>
    intro k i y m hn hx hy hl hk h0 h1
    obtain ⟨k, rfl⟩ : ∃ m, k = m + 1 := ⟨k - 1, by omega⟩
    simp only [List.length_cons] at hl hk
    rw [totR] at h1 ⊢
    have hc := hx c List.mem_cons_self
    rw [drop157 y i (by omega), mkdR] at hy
    injection hy with hy1 hy2
    rw [laws_heldReachS.l0, if_pos (by omega), if_pos (by omega), hy1]
    dsimp only
    rw [if_pos rfl, wrap_in (x := m + 1) (by omega) (by omega), if_pos rfl, wrap_in (x := m + 1 + 1) (by omega) (by omega), show m + 1 + 1 = m + 2 by omega, heldIntS_is c.f2.length (m + 2) k (by omega) (by omega) (by omega) (by omega), Option.bind_some, if_neg (by omega), wrap_succ (n := y.length) (by omega) (by omega)]
    rw [ih k (i + 1) y (m + 2 + (c.f2.length : Int)) hn (fun z hz => hx z (List.mem_cons_of_mem _ hz)) hy2 (by omega) (by omega) (by omega) (by omega)]
    congr 1
    omega
theorem mkdR_len : ∀ (cs : List S157) (m : Int), (mkdR m cs).length = cs.length
  | [], _ => rfl
  | c :: cs, m => by rw [mkdR, List.length_cons, mkdR_len cs, List.length_cons]
theorem markR_held (x : List S157) (hn : x.length ≤ 1048576) (hx : ∀ c ∈ x, c.f2.length ≤ 1048576) (ht : totR x ≤ 1000000000000) : ∃ (m : Int) (y : List S157), 0 ≤ m ∧ ∀ k, 2097154 < k → laws_markReachS.f k x 1 = some (m, y) ∧ laws_heldReachS.f k y 1 = some m := by
  refine ⟨1 + totR x, mkdR 1 x, by omega, fun k hk => ?_⟩
  have a := markR_l0 x.length k 0 x 1 hn hx (by omega) (by omega) (by omega) (by omega) (by rw [List.drop_zero]; omega)
  rw [List.drop_zero, List.take_zero, List.nil_append] at a
  have b := heldR_l0 x k 0 (mkdR 1 x) 1 (by rw [mkdR_len]; exact hn) hx (List.drop_zero) (by rw [mkdR_len]; omega) (by omega) (by omega) (by omega)
  exact ⟨a, b⟩
theorem totR_le (x : List S157) (hx : ∀ c ∈ x, c.f2.length ≤ 7) : totR x ≤ 9 * x.length := by
  induction x with
  | nil => simp [totR]
  | cons c cs ih =>
    have h1 := hx c List.mem_cons_self
    have h2 := ih (fun z hz => hx z (List.mem_cons_of_mem _ hz))
    rw [totR, List.length_cons]
    omega
theorem reachall_is (l : List S104) (hn : l.length ≤ 1048576) (a0 a1 : Int) (b : Bool) (a3 a4 a5 a6 a7 a8 : Int) (s : ByteArray) (x : List Int) (hx : x.length ≤ 1048576) :
    ∃ R : List S157 × Bool, R.1.length ≤ 1048576 ∧ (∀ z ∈ R.1, z.f2.length ≤ 7) ∧ ∀ k, 2097300 ≤ k → spec_ReachAll.f k l a0 a1 b a3 a4 a5 a6 a7 a8 s x = some R ∧ impl_ReachAll.f k l a0 a1 b a3 a4 a5 a6 a7 a8 s x = some R := by
  unfold spec_ReachAll.f impl_ReachAll.f spec_l17Ask.f
  obtain ⟨m, hm⟩ := rise_is x hx
  obtain ⟨Q, hQ, hz, q⟩ := all_l0 l hn x hx a0 a1 b a3 a4 a5 a6 a7 a8 s x.length 0 [] (by omega) (by omega) (by simp; omega) (by simp)
  have hQ' : Q.length ≤ 1048576 := by simp at hQ; omega
  by_cases f : FT l a0 a1 a3 a4 a5 a6 a7 a8 (s.size : Int)
  · by_cases c : m = true
    · refine ⟨(Q, true), hQ', hz, fun k hk => ?_⟩
      obtain ⟨k, rfl⟩ : ∃ m, k = m + 2 := ⟨k - 2, by omega⟩
      rw [sfit_is l hn _ _ _ _ _ _ _ _ _ _ (k + 2) (by omega), ifit_is l hn _ _ _ _ _ _ _ _ _ _ (k + 2) (by omega), decide_eq_true f, (hm (k + 2) (by omega)).1, (hm (k + 2) (by omega)).2, c]
      simp only [Option.bind_some, if_true]
      rw [impl_ReachAll.j0]
      unfold spec_l17Reach.f
      have q1 := (q (k + 2) (by omega)).1
      have q2 := (q (k + 1) (by omega)).2
      rw [show ((0 : Nat) : Int) = 0 from rfl] at q1 q2
      simp only [Bool.not_true, Bool.false_eq_true, if_false]
      rw [q1, q2]
      exact ⟨by first | trivial | rfl, by first | trivial | rfl⟩
    · have c' : m = false := by simpa using c
      refine ⟨([], false), by simp, by simp, fun k hk => ?_⟩
      obtain ⟨k, rfl⟩ : ∃ m, k = m + 2 := ⟨k - 2, by omega⟩
      rw [sfit_is l hn _ _ _ _ _ _ _ _ _ _ (k + 2) (by omega), ifit_is l hn _ _ _ _ _ _ _ _ _ _ (k + 2) (by omega), decide_eq_true f, (hm (k + 2) (by omega)).1, (hm (k + 2) (by omega)).2, c']
      simp only [Option.bind_some, if_true, Bool.false_eq_true, if_false]
      rw [impl_ReachAll.j0]
      simp only [Bool.not_false, if_true, Option.bind_some, Bool.false_eq_true, if_false]
      exact ⟨by first | trivial | rfl, by first | trivial | rfl⟩
  · refine ⟨([], false), by simp, by simp, fun k hk => ?_⟩
    obtain ⟨k, rfl⟩ : ∃ m, k = m + 2 := ⟨k - 2, by omega⟩
    rw [sfit_is l hn _ _ _ _ _ _ _ _ _ _ (k + 2) (by omega), ifit_is l hn _ _ _ _ _ _ _ _ _ _ (k + 2) (by omega), decide_eq_false f]
    simp only [Option.bind_some, Bool.false_eq_true, if_false]
    rw [impl_ReachAll.j0]
    simp only [if_true, Option.bind_some, Bool.false_eq_true, if_false]
    exact ⟨by first | trivial | rfl, by first | trivial | rfl⟩

theorem FnExactReachAll : laws_FnExactReachAll.Stmt := by
  intro l a0 a1 b a3 a4 a5 a6 a7 a8 s x ⟨hn, _⟩ ⟨_, _, _, _, _, _, _, _, _, hs⟩ _
  have hn' : l.length ≤ 9223372036854775807 := Nat.le_trans hn (by decide)
  have hs' : s.size ≤ 9223372036854775807 := Nat.le_trans hs (by decide)
  refine ⟨3000000, ?_⟩
  unfold laws_FnExactReachAll.f
  by_cases c0 : (x.length : Int) > 1048576
  · rw [if_pos c0]
  · rw [if_neg c0]
    unfold laws_szContactS.f
    rw [wrap_in (by omega) (by omega)]
    by_cases c1 : 1048576 - (l.length : Int) < 0
    · rw [if_pos c1, Option.bind_some, if_pos (by decide)]
    · rw [if_neg c1]
      unfold laws_szBundle.f
      rw [Option.bind_some, if_neg c1, wrap_in (by omega) (by omega)]
      by_cases c2 : 1048576 - (l.length : Int) - (s.size : Int) < 0
      · rw [if_pos c2, Option.bind_some, if_pos (by decide)]
      · have hx : x.length ≤ 1048576 := by omega
        have hl : (l.map cv).length ≤ 1048576 := by rw [List.length_map]; omega
        obtain ⟨R, hR, hz, e⟩ := reachall_is (l.map cv) hl a0 a1 b a3 a4 a5 a6 a7 a8 s x hx
        have hz' : ∀ c ∈ R.1, c.f2.length ≤ 1048576 := fun c hc => Nat.le_trans (hz c hc) (by omega)
        have htot := totR_le R.1 hz
        have E : ∀ k, 2097200 < k → laws_eqReachS.f k R.1 R.1 = some true := fun k hk => eqR_same R.1 hR hz' k (by omega)
        have T : ∀ k, 1048700 ≤ k → laws_toContactS.f k l = some (l.map cv) := fun k hk => toC_is l (by omega) k (by omega)
        have TI : ∀ k, 1048700 ≤ k → laws_toIntS.f k x = some x := fun k hk => toIntS_is x (by omega) k (by omega)
        have ne : (R.2 != R.2) = false := by simp
        obtain ⟨mm, ym, hm0, HM⟩ := markR_held R.1 hR hz' (by omega)
        obtain ⟨mr, my, m0, m1, me⟩ := markC_is (l.map cv) hl 2999999 (by omega)
        unfold laws_toBundle.f
        rw [if_neg c2, Option.bind_some, if_neg c2, T _ (by omega), Option.bind_some, Option.bind_some]
        dsimp only
        rw [TI _ (by omega), Option.bind_some, (e _ (by omega)).1, Option.bind_some, Option.bind_some, Option.bind_some, Option.bind_some]
        dsimp only
        rw [(e _ (by omega)).2, Option.bind_some, E _ (by omega), Option.bind_some, if_pos rfl, ne, laws_FnExactReachAll.j0, if_neg Bool.false_ne_true, T _ (by omega), Option.bind_some, eqC_same _ hl _ (by omega), Option.bind_some, if_pos rfl, TI _ (by omega), Option.bind_some, eqIntS_same x (by omega) _ (by omega), Option.bind_some, if_pos rfl, me, Option.bind_some]
        dsimp only
        rw [markIntS_is x mr _ (by omega) (by omega) (by omega) (by omega), Option.bind_some]
        dsimp only
        rw [if_neg (by omega), E _ (by omega), Option.bind_some, if_pos rfl, ne, laws_FnExactReachAll.j1, if_neg Bool.false_ne_true, (HM _ (by omega)).1, Option.bind_some]
        dsimp only
        rw [(HM _ (by omega)).2, Option.bind_some, if_neg (by omega), if_pos rfl, T _ (by omega), Option.bind_some]
        unfold laws_toBundle.f
        rw [Option.bind_some]
        dsimp only
        rw [TI _ (by omega), Option.bind_some, (e _ (by omega)).2, Option.bind_some, E _ (by omega), Option.bind_some, if_pos rfl, ne, laws_FnExactReachAll.j2, if_neg Bool.false_ne_true, (HM _ (by omega)).2, Option.bind_some, if_neg (by omega), if_pos rfl]

end Go.Proofs.Yteneeohaoplpbaa.Pure
