/- Numbers come back from their bytes, whatever stands behind, for all bytes that the numbers are drawn from. -/
import Derived.Test.YtnphabcbnpenjaaXFnSdnvx6
set_option linter.unusedVariables false
set_option linter.unusedSimpArgs false
namespace Go.Proofs.Ytnphabcbnpenjaa.Pure
open Go.RowKit Go.Proofs.Ytnphabcbnpenjaa.XFnSdnv Go.Proofs.YtnphabcbnpenjaaW.PrintWords Go.Proofs.YtnphabcbnpenjaaW.PrintLast Go.Proofs.YtnphabcbnpenjaaW.PrintMore

/-- What is to be shown of FnSdnv, in numbers and lists alone. -/
def laws_FnSdnv.Stmt : Prop := ∀ (l0 : List Int) (l1 : List Int), (l0.length ≤ maxLen ∧ ∀ x ∈ l0, (Lit.int .u8 x).wf = true) → (l1.length ≤ maxLen ∧ ∀ x ∈ l1, (Lit.int .u8 x).wf = true) → ∃ k, laws_FnSdnv.f k l0 l1 = some true

theorem wrap_in {x : Int} (h0 : -9223372036854775808 ≤ x) (h1 : x ≤ 9223372036854775807) : wrap64 x = x := by
  unfold wrap64
  omega
theorem wrap_succ {i n : Nat} (h : i < n) (hn : n ≤ 9223372036854775807) : wrap64 ((i : Int) + 1) = ((i + 1 : Nat) : Int) := by
  rw [wrap_in (by omega) (by omega)]
  omega

theorem wf_u8 {x : Int} (h : (Lit.int .u8 x).wf = true) : 0 ≤ x ∧ x ≤ 255 := by
  simp [Lit.wf, IntKind.min, IntKind.max, IntKind.signed, IntKind.bits] at h
  omega
theorem wf_i64 {x : Int} (h : (Lit.int .i64 x).wf = true) : -9223372036854775808 ≤ x ∧ x ≤ 9223372036854775807 := by
  simp [Lit.wf, IntKind.min, IntKind.max, IntKind.signed, IntKind.bits] at h
  omega
theorem rd_mem (l : List Int) (i : Int) (h0 : 0 ≤ i) (h1 : i < (l.length : Int)) : rd l i ∈ l := by
  unfold rd
  have h : i.toNat < l.length := by omega
  rw [List.getD_eq_getElem?_getD, List.getElem?_eq_getElem h]
  exact List.getElem_mem h
theorem wrap_u64 (n : Int) : IntKind.u64.wrap n = n % 18446744073709551616 := by simp [IntKind.wrap, IntKind.bits, IntKind.signed]
theorem and255 (x : Int) (h0 : 0 ≤ x) (h1 : x < 18446744073709551616) : Go.bits .and .u64 x 255 = x % 256 :=
  bits_mask .u64 64 (by decide) (fun n a b => by rw [wrap_u64]; omega) 8 (by decide) x h0 h1
theorem next_ok (l : List Int) (hl : ∀ x ∈ l, (Lit.int .u8 x).wf = true) (at_ u : Int) (h0 : 0 ≤ at_) (h1 : at_ ≤ 4611686018427387904) :
    ∃ r u', spec_l1Cur_next.f l at_ u = some (r, at_ + 1, u') ∧ 0 ≤ r ∧ r ≤ 255 := by
  unfold spec_l1Cur_next.f
  have ew : wrap64 (at_ + 1) = at_ + 1 := wrap_in (by omega) (by omega)
  have hb : ∀ X : Int, 0 ≤ wrap64 (Go.bits .and .u64 ((IntKind.u64.wrap X) / 1099511627776) 255) ∧ wrap64 (Go.bits .and .u64 ((IntKind.u64.wrap X) / 1099511627776) 255) ≤ 255 := fun X => by
    rw [and255 _ (by rw [wrap_u64]; omega) (by rw [wrap_u64]; omega), wrap_in (by omega) (by omega)]
    omega
  by_cases c1 : at_ < (l.length : Int)
  · have hr := wf_u8 (hl _ (rd_mem l at_ h0 c1))
    rw [if_pos c1, if_pos h0, ew]
    by_cases c2 : at_ + 1 ≤ (l.length : Int)
    · rw [if_pos c2]
      exact ⟨_, _, rfl, by rw [wrap_in (by omega) (by omega)]; omega, by rw [wrap_in (by omega) (by omega)]; omega⟩
    · rw [if_neg c2]
      exact ⟨_, _, rfl, (hb _).1, (hb _).2⟩
  · rw [if_neg c1, ew]
    by_cases c2 : at_ + 1 ≤ (l.length : Int)
    · rw [if_pos c2]
      exact ⟨_, _, rfl, by omega, by omega⟩
    · rw [if_neg c2]
      exact ⟨_, _, rfl, (hb _).1, (hb _).2⟩
/-- What is drawn: a number below n (0 for n up to 1); the place goes on by two at the most. -/
theorem pick_ok (l : List Int) (hl : ∀ x ∈ l, (Lit.int .u8 x).wf = true) (at_ u n : Int) (h0 : 0 ≤ at_) (h1 : at_ ≤ 2305843009213693952) :
    ∃ r at' u', spec_l1Cur_pick.f l at_ u n = some (r, at', u') ∧ 0 ≤ r ∧ (r < n ∨ r = 0) ∧ r ≤ 65535 ∧ at_ ≤ at' ∧ at' ≤ at_ + 2 := by
  unfold spec_l1Cur_pick.f
  by_cases c1 : n ≤ 1
  · rw [if_pos c1]
    exact ⟨_, _, _, rfl, by omega, by omega, by omega, by omega, by omega⟩
  · rw [if_neg c1]
    obtain ⟨r, u', e1, r0, r1⟩ := next_ok l hl at_ u h0 (by omega)
    rw [e1]
    simp only [Option.bind_some]
    have tm : ∀ x : Int, 0 ≤ x → x ≤ 65535 → 0 ≤ Int.tmod x n ∧ Int.tmod x n < n ∧ Int.tmod x n ≤ 65535 := fun x hx hx2 => by
      rw [Int.tmod_eq_emod_of_nonneg hx]
      have a := Int.emod_nonneg x (show n ≠ 0 by omega)
      have b := Int.emod_lt_of_pos x (show 0 < n by omega)
      have c : x % n ≤ x := by
        by_cases hxn : x < n
        · rw [Int.emod_eq_of_lt hx hxn]; exact Int.le_refl _
        · omega
      omega
    by_cases c2 : n > 200
    · rw [if_pos c2]
      obtain ⟨r2, u2, e2, s0, s1⟩ := next_ok l hl (at_ + 1) u' (by omega) (by omega)
      rw [e2]
      simp only [Option.bind_some]
      rw [if_neg (show ¬ n = 0 by omega)]
      have ew : wrap64 ((wrap64 (r * 256)) + r2) = r * 256 + r2 := by rw [wrap_in (x := r * 256) (by omega) (by omega), wrap_in (by omega) (by omega)]
      rw [ew]
      have := tm (r * 256 + r2) (by omega) (by omega)
      exact ⟨_, _, _, rfl, by omega, by omega, by omega, by omega, by omega⟩
    · rw [if_neg c2, if_neg (show ¬ n = 0 by omega)]
      have := tm r (by omega) (by omega)
      exact ⟨_, _, _, rfl, by omega, by omega, by omega, by omega, by omega⟩
theorem one_ok (l : List Int) (hl : ∀ x ∈ l, (Lit.int .u8 x).wf = true) (at_ u n : Int) (h0 : 0 ≤ at_) (h1 : at_ ≤ 2305843009213693952) :
    ∃ b at' u', spec_l1Cur_one.f l at_ u n = some (b, at', u') ∧ at_ ≤ at' ∧ at' ≤ at_ + 2 := by
  obtain ⟨r, a, u', e, _, _, _, g1, g2⟩ := pick_ok l hl at_ u n h0 h1
  unfold spec_l1Cur_one.f
  rw [e]
  exact ⟨_, _, _, rfl, g1, g2⟩
theorem among_ok (l : List Int) (hl : ∀ x ∈ l, (Lit.int .u8 x).wf = true) (at_ u : Int) (c : List Int) (hc : 0 < c.length) (h0 : 0 ≤ at_) (h1 : at_ ≤ 2305843009213693952) :
    ∃ r at' u', spec_l1Cur_among.f l at_ u c = some (r, at', u') ∧ r ∈ c ∧ at_ ≤ at' ∧ at' ≤ at_ + 2 := by
  obtain ⟨r, a, u', e, r0, r1, _, g1, g2⟩ := pick_ok l hl at_ u (c.length : Int) h0 h1
  unfold spec_l1Cur_among.f
  rw [e]
  simp only [Option.bind_some]
  rw [if_pos r0, if_pos (by omega)]
  exact ⟨_, _, _, rfl, rd_mem c r r0 (by omega), g1, g2⟩

/-! The bytes of a text as numbers. -/
def nm (x : ByteArray) : List Int := x.data.toList.map fun b => (b.toNat : Int)
theorem nm_length (x : ByteArray) : (nm x).length = x.size := by
  unfold nm
  rw [List.length_map, Array.length_toList]
  rfl
theorem nm_byte (x : ByteArray) : ∀ y ∈ nm x, 0 ≤ y ∧ y < 256 := by
  intro y hy
  obtain ⟨b, _, rfl⟩ := List.mem_map.mp hy
  have := b.toNat_lt
  omega
theorem nm_inj {x y : ByteArray} (h : nm x = nm y) : x = y := by
  have e : x.data.toList = y.data.toList := by
    have hm : (nm x).map (fun n => UInt8.ofNat n.toNat) = (nm y).map (fun n => UInt8.ofNat n.toNat) := by rw [h]
    simpa [nm, Function.comp_def] using hm
  exact ByteArray.ext (Array.ext' e)
theorem nm_append (x y : ByteArray) : nm (x ++ y) = nm x ++ nm y := by simp [nm]
theorem nm_str (l : List Int) (h : ∀ y ∈ l, 0 ≤ y ∧ y < 256) : nm (strOfNums l) = l := by
  unfold nm
  rw [strOfNums_data, List.map_map]
  conv => rhs; rw [← List.map_id l]
  refine List.map_congr_left fun y hy => ?_
  have := h y hy
  simp only [Function.comp_def, id_eq, UInt8.toNat_ofNat']
  omega
theorem str_append (a b : List Int) : strOfNums (a ++ b) = strOfNums a ++ strOfNums b := by
  apply ByteArray.ext
  simp [strOfNums]
theorem str_size (a : List Int) : (strOfNums a).size = a.length := strOfNums_size a
theorem bt_nm (x : ByteArray) (i : Int) : bt x i = rd (nm x) i := by
  unfold bt rd nm
  by_cases h : i.toNat < x.size
  · rw [dif_pos h, List.getD_eq_getElem?_getD, List.getElem?_map, List.getElem?_eq_getElem (by rw [Array.length_toList]; exact h)]
    rfl
  · rw [dif_neg h, List.getD_eq_getElem?_getD, List.getElem?_eq_none (by rw [List.length_map, Array.length_toList]; exact Nat.not_lt.mp h)]
    rfl
/-! What a number is written as. -/
def hiE (n : Int) : List Int := if n > 0 then hiE (n / 128) ++ [n % 128 + 128] else []
termination_by n.toNat
decreasing_by omega
def enc (n : Int) : List Int := hiE (n / 128) ++ [n % 128]
def encL (l : List Int) : List Int := l.flatMap enc
def okV (v : Int) : Prop := 0 ≤ v ∧ v ≤ 1000000000
theorem hiE_zero (n : Int) (h : ¬ n > 0) : hiE n = [] := by rw [hiE, if_neg h]
theorem hiE_pos (n : Int) (h : n > 0) : hiE n = hiE (n / 128) ++ [n % 128 + 128] := by rw [hiE, if_pos h]
theorem hiE_len (m : Nat) : ∀ n : Int, 0 ≤ n → n < 128 ^ m → (hiE n).length ≤ m := by
  induction m with
  | zero => intro n h0 h1; rw [hiE_zero n (by simp at h1; omega)]; simp
  | succ m ih =>
    intro n h0 h1
    by_cases h : n > 0
    · rw [hiE_pos n h]
      have := ih (n / 128) (by omega) (by rw [Int.pow_succ] at h1; omega)
      simp
      omega
    · rw [hiE_zero n h]; simp
theorem hiE_byte (m : Nat) : ∀ n : Int, 0 ≤ n → n < 128 ^ m → ∀ y ∈ hiE n, 128 ≤ y ∧ y < 256 := by
  induction m with
  | zero => intro n h0 h1; rw [hiE_zero n (by simp at h1; omega)]; simp
  | succ m ih =>
    intro n h0 h1
    by_cases h : n > 0
    · rw [hiE_pos n h]
      intro y hy
      rcases List.mem_append.mp hy with hy | hy
      · exact ih (n / 128) (by omega) (by rw [Int.pow_succ] at h1; omega) y hy
      · have : y = n % 128 + 128 := by simpa using hy
        omega
    · rw [hiE_zero n h]; simp
theorem enc_len (v : Int) (h : okV v) : 1 ≤ (enc v).length ∧ (enc v).length ≤ 5 := by
  have := hiE_len 4 (v / 128) (by unfold okV at h; omega) (by unfold okV at h; omega)
  unfold enc
  simp
  omega
theorem enc_byte (v : Int) (h : okV v) : ∀ y ∈ enc v, 0 ≤ y ∧ y < 256 := by
  intro y hy
  rcases List.mem_append.mp hy with hy | hy
  · have := hiE_byte 4 (v / 128) (by unfold okV at h; omega) (by unfold okV at h; omega) y hy
    omega
  · have : y = v % 128 := by simpa using hy
    omega
theorem encL_byte (l : List Int) (h : ∀ v ∈ l, okV v) : ∀ y ∈ encL l, 0 ≤ y ∧ y < 256 := by
  intro y hy
  obtain ⟨v, hv, hy⟩ := List.mem_flatMap.mp hy
  exact enc_byte v (h v hv) y hy
theorem encL_len (l : List Int) (h : ∀ v ∈ l, okV v) : (encL l).length ≤ 5 * l.length := by
  induction l with
  | nil => simp [encL]
  | cons v l ih =>
    have h1 := enc_len v (h v List.mem_cons_self)
    have h2 := ih fun w hw => h w (List.mem_cons_of_mem _ hw)
    unfold encL at h2 ⊢
    rw [List.flatMap_cons, List.length_append, List.length_cons]
    omega
/-! Bits. -/
theorem and127 (x : Int) (h0 : 0 ≤ x) (h1 : x < 9223372036854775808) : Go.bits .and .i64 x 127 = x % 128 :=
  bits_mask .i64 63 (by decide) (fun n a b => by rw [IntKind.wrap_i64]; omega) 7 (by decide) x h0 h1
theorem andb127 (x : Int) (h0 : 0 ≤ x) (h1 : x < 256) : Go.bits .and .u8 x 127 = x % 128 :=
  bits_mask .u8 8 (by decide) wraps_u8 7 (by decide) x h0 h1
theorem orb128 (y : Int) (h0 : 0 ≤ y) (h1 : y < 128) : Go.bits .or .u8 y 128 = y + 128 := by
  obtain ⟨b, rfl⟩ := Int.eq_ofNat_of_zero_le h0
  have e1 := (bits_nat .u8 8 (by decide) wraps_u8 b 128 (by omega) (by omega)).2
  have e2 := (bits_nat .u8 8 (by decide) wraps_u8 128 b (by omega) (by omega)).2
  have e3 := bits_join .u8 8 (by decide) wraps_u8 7 128 b (by decide) (by decide) (by decide) (by omega) (by omega) (by omega)
  rw [show ((128 : Nat) : Int) = 128 from rfl] at e1 e2
  rw [e1, Nat.or_comm, ← e2, e3]
  omega
theorem or128 (x y : Int) (h0 : 0 ≤ x) (h1 : x ≤ 1000000000000000) (h2 : 0 ≤ y) (h3 : y < 128) : Go.bits .or .i64 (x * 128) y = x * 128 + y :=
  bits_join .i64 63 (by decide) (fun n a b => by rw [IntKind.wrap_i64]; omega) 7 (x * 128) y (by omega) (by omega) (by omega) h2 (by omega) (by omega)
/-! Writing. -/
theorem rev_small (l : List Int) (h1 : 1 ≤ l.length) (h5 : l.length ≤ 5) (k : Nat) : slices_Reverse_byte_byte.f (k + 4) l = some l.reverse := by
  match l, h1, h5 with
  | [a], _, _ => simp [slices_Reverse_byte_byte.f, slices_Reverse_byte_byte.l0, wrap64]
  | [a, b], _, _ => simp [slices_Reverse_byte_byte.f, slices_Reverse_byte_byte.l0, wrap64, rd]
  | [a, b, c], _, _ => simp [slices_Reverse_byte_byte.f, slices_Reverse_byte_byte.l0, wrap64, rd]
  | [a, b, c, d], _, _ => simp [slices_Reverse_byte_byte.f, slices_Reverse_byte_byte.l0, wrap64, rd]
  | [a, b, c, d, e], _, _ => simp [slices_Reverse_byte_byte.f, slices_Reverse_byte_byte.l0, wrap64, rd]
theorem isdnv_l0 (m : Nat) : ∀ (k : Nat) (n : Int) (x : List Int), 0 ≤ n → n < 128 ^ m → n ≤ 1000000000 → 1 ≤ x.length → x.length + m ≤ 5 → impl_sdnv.l0 (k + m + 5) n x = some (strOfNums (hiE n ++ x.reverse)) := by
  induction m with
  | zero =>
    intro k n x h0 h1 h2 h3 h4
    have hz : ¬ n > 0 := by simp at h1; omega
    rw [impl_sdnv.l0, if_neg hz, show k + 0 + 4 = k + 4 from rfl, rev_small x h3 (by omega) k, hiE_zero n hz]
    rfl
  | succ m ih =>
    intro k n x h0 h1 h2 h3 h4
    by_cases hz : n > 0
    · rw [show k + (m + 1) + 5 = (k + m + 5) + 1 by omega, impl_sdnv.l0, if_pos hz, if_pos (by omega), Int.tdiv_eq_ediv_of_nonneg h0, Int.tmod_eq_emod_of_nonneg h0, wrap_in (by omega) (by omega), wrap_in (by omega) (by omega), ih k (n / 128) _ (by omega) (by rw [Int.pow_succ] at h1; omega) (by omega) (by simp) (by simp; omega), hiE_pos n hz, show (n % 128 + 128) % 256 = n % 128 + 128 by omega]
      simp
    · rw [show k + (m + 1) + 5 = (k + m + 1) + 4 + 1 by omega, impl_sdnv.l0, if_neg hz, rev_small x h3 (by omega) (k + m + 1), hiE_zero n hz]
      rfl
theorem isdnv_is (v : Int) (h : okV v) (k : Nat) (hk : 100 < k) : impl_sdnv.f k v = some (strOfNums (enc v)) := by
  obtain ⟨h0, h1⟩ := h
  unfold impl_sdnv.f
  obtain ⟨k, rfl⟩ : ∃ m, k = m + 4 + 5 := ⟨k - 9, by omega⟩
  rw [Int.tdiv_eq_ediv_of_nonneg h0, Int.tmod_eq_emod_of_nonneg h0, wrap_in (by omega) (by omega), isdnv_l0 4 k (v / 128) _ (by omega) (by omega) (by omega) (by simp) (by simp), show v % 128 % 256 = v % 128 by omega]
  simp [enc]
theorem empty_app (x : ByteArray) : strOfNums [] ++ x = x := by
  apply ByteArray.ext
  simp [strOfNums]
theorem ssdnv_l0 (m : Nat) : ∀ (k : Nat) (n : Int) (x : ByteArray), 0 ≤ n → n < 128 ^ m → n ≤ 1000000000 → x.size + m ≤ 5 → spec_l1Sdnv.l0 (k + m + 1) n x = some (strOfNums (hiE n) ++ x) := by
  induction m with
  | zero =>
    intro k n x h0 h1 h2 h3
    have hz : ¬ n > 0 := by simp at h1; omega
    rw [spec_l1Sdnv.l0, if_neg hz, hiE_zero n hz, empty_app]
  | succ m ih =>
    intro k n x h0 h1 h2 h3
    by_cases hz : n > 0
    · rw [show k + (m + 1) + 1 = (k + m + 1) + 1 by omega, spec_l1Sdnv.l0, if_pos hz]
      simp only [Option.bind_some]
      have hs : (strOfNums [Go.bits .or .u8 ((Go.bits .and .i64 n 127) % 256) 128]).size = 1 := by rw [str_size]; rfl
      rw [if_pos (by rw [hs]; omega), ih k (n / 128) _ (by omega) (by rw [Int.pow_succ] at h1; omega) (by omega) (by rw [ByteArray.size_append, hs]; omega), hiE_pos n hz, and127 n h0 (by omega), show n % 128 % 256 = n % 128 by omega, orb128 _ (by omega) (by omega), str_append]
      congr 1
      apply ByteArray.ext
      simp [strOfNums]
    · rw [spec_l1Sdnv.l0, if_neg hz, hiE_zero n hz, empty_app]
theorem ssdnv_is (v : Int) (h : okV v) (k : Nat) (hk : 100 < k) : spec_l1Sdnv.f k v = some (strOfNums (enc v)) := by
  obtain ⟨h0, h1⟩ := h
  unfold spec_l1Sdnv.f
  obtain ⟨k, rfl⟩ : ∃ m, k = m + 4 + 1 := ⟨k - 5, by omega⟩
  rw [ssdnv_l0 4 k (v / 128) _ (by omega) (by omega) (by omega) (by rw [str_size]; simp), and127 v h0 (by omega), show v % 128 % 256 = v % 128 by omega]
  unfold enc
  rw [str_append]
theorem svalue_is (v : Int) : spec_l1Value.f v = some (decide (0 ≤ v ∧ v ≤ 1000000000)) := by
  unfold spec_l1Value.f spec_l1In.f
  by_cases h : v ≥ 0
  · rw [if_pos h]
    have h' : 0 ≤ v := h
    simp [h']
  · rw [if_neg h]
    have h' : ¬ 0 ≤ v := h
    simp [h']
theorem ivalue_is (v : Int) : impl_isValue.f v = some (decide (0 ≤ v ∧ v ≤ 1000000000)) := by
  unfold impl_isValue.f impl_within.f
  by_cases h : 0 ≤ v <;> simp [h]
instance (v : Int) : Decidable (okV v) := by unfold okV; infer_instance
theorem dropInt (l : List Int) (i : Nat) (h : i < l.length) : l.drop i = rd l (i : Int) :: l.drop (i + 1) := by
  rw [List.drop_eq_getElem_cons h]
  unfold rd
  simp [List.getD_eq_getElem?_getD, List.getElem?_eq_getElem h]
theorem encL_cons (v : Int) (l : List Int) : encL (v :: l) = enc v ++ encL l := by simp [encL]
/-- Both write a row alike: all of it, or nothing. -/
theorem list_l0 (l : List Int) (hn : l.length ≤ 400) (d : Nat) : ∀ (i : Nat) (acc : ByteArray), l.length - i = d → i ≤ l.length → acc.size + 5 * d ≤ 2000 →
    ((∀ v ∈ l.drop i, okV v) → ∀ k, 100 + d < k → impl_SdnvList.l0 k acc l (l.length : Int) (i : Int) = some (acc ++ strOfNums (encL (l.drop i)), true) ∧
      spec_SdnvList.l0 k l acc l (l.length : Int) (i : Int) = if (l.length : Int) > 40 then some (⟨#[]⟩, false) else some (acc ++ strOfNums (encL (l.drop i)), true)) ∧
    ((¬ ∀ v ∈ l.drop i, okV v) → ∀ k, 100 + d < k → impl_SdnvList.l0 k acc l (l.length : Int) (i : Int) = some (⟨#[]⟩, false) ∧ spec_SdnvList.l0 k l acc l (l.length : Int) (i : Int) = some (⟨#[]⟩, false)) := by
  induction d with
  | zero =>
    intro i acc hd hi hs
    rw [List.drop_of_length_le (by omega)]
    refine ⟨fun _ k hk => ?_, fun h => absurd (by simp) h⟩
    obtain ⟨k, rfl⟩ : ∃ m, k = m + 1 := ⟨k - 1, by omega⟩
    simp only [impl_SdnvList.l0, spec_SdnvList.l0]
    have e : acc ++ strOfNums (encL []) = acc := by
      apply ByteArray.ext
      simp [strOfNums, encL]
    rw [if_neg (by omega), if_neg (by omega), e]
    exact ⟨rfl, rfl⟩
  | succ d ih =>
    intro i acc hd hi hs
    rw [dropInt l i (by omega)]
    have base : ∀ k, impl_SdnvList.l0 (k + 1) acc l (l.length : Int) (i : Int) = (if decide (0 ≤ rd l (i : Int) ∧ rd l (i : Int) ≤ 1000000000) = true then ((impl_sdnv.f k (rd l (i : Int))).bind fun t176 => (if acc.size + t176.size ≤ 9223372036854775807 then (impl_SdnvList.l0 k (acc ++ t176) l (l.length : Int) ((i + 1 : Nat) : Int)) else (none))) else (some ((⟨#[]⟩ : ByteArray), false))) ∧
        spec_SdnvList.l0 (k + 1) l acc l (l.length : Int) (i : Int) = (if decide (0 ≤ rd l (i : Int) ∧ rd l (i : Int) ≤ 1000000000) = true then ((spec_l1Sdnv.f k (rd l (i : Int))).bind fun t176 => (if acc.size + t176.size ≤ 9223372036854775807 then (spec_SdnvList.l0 k l (acc ++ t176) l (l.length : Int) ((i + 1 : Nat) : Int)) else (none))) else (some ((⟨#[]⟩ : ByteArray), false))) := fun k => by
      rw [impl_SdnvList.l0, spec_SdnvList.l0, ivalue_is, svalue_is, wrap_succ (n := l.length) (by omega) (by omega)]
      simp only [if_pos (show (i : Int) < (l.length : Int) by omega), if_pos (show 0 ≤ (i : Int) by omega), Option.bind_some]
      exact ⟨trivial, trivial⟩
    by_cases c : okV (rd l (i : Int))
    · have hl := enc_len _ c
      have hsz : (strOfNums (enc (rd l (i : Int)))).size ≤ 5 := by rw [str_size]; exact hl.2
      obtain ⟨g1, g2⟩ := ih (i + 1) (acc ++ strOfNums (enc (rd l (i : Int)))) (by omega) (by omega) (by rw [ByteArray.size_append]; omega)
      have hc : decide (0 ≤ rd l (i : Int) ∧ rd l (i : Int) ≤ 1000000000) = true := decide_eq_true c
      constructor
      · intro h k hk
        obtain ⟨k, rfl⟩ : ∃ m, k = m + 1 := ⟨k - 1, by omega⟩
        obtain ⟨b1, b2⟩ := base k
        obtain ⟨f1, f2⟩ := g1 (fun v hv => h v (List.mem_cons_of_mem _ hv)) k (by omega)
        rw [b1, b2, if_pos hc, if_pos hc, isdnv_is _ c k (by omega), ssdnv_is _ c k (by omega)]
        simp only [Option.bind_some]
        rw [if_pos (by omega), if_pos (by omega), f1, f2, encL_cons, str_append, ByteArray.append_assoc]
        exact ⟨rfl, rfl⟩
      · intro h k hk
        obtain ⟨k, rfl⟩ : ∃ m, k = m + 1 := ⟨k - 1, by omega⟩
        obtain ⟨b1, b2⟩ := base k
        obtain ⟨f1, f2⟩ := g2 (fun hh => h (List.forall_mem_cons.mpr ⟨c, hh⟩)) k (by omega)
        rw [b1, b2, if_pos hc, if_pos hc, isdnv_is _ c k (by omega), ssdnv_is _ c k (by omega)]
        simp only [Option.bind_some]
        rw [if_pos (by omega), if_pos (by omega), f1, f2]
        exact ⟨rfl, rfl⟩
    · have hc : ¬ decide (0 ≤ rd l (i : Int) ∧ rd l (i : Int) ≤ 1000000000) = true := by rw [decide_eq_true_eq]; exact c
      refine ⟨fun h => absurd (h _ List.mem_cons_self) c, fun h k hk => ?_⟩
      obtain ⟨k, rfl⟩ : ∃ m, k = m + 1 := ⟨k - 1, by omega⟩
      obtain ⟨b1, b2⟩ := base k
      rw [b1, b2, if_neg hc, if_neg hc]
      exact ⟨rfl, rfl⟩
def okL (l : List Int) : Prop := l.length ≤ 40 ∧ ∀ v ∈ l, okV v
theorem list_yes (l : List Int) (h : okL l) (k : Nat) (hk : 1000 < k) : impl_SdnvList.f k l = some (strOfNums (encL l), true) ∧ spec_SdnvList.f k l = some (strOfNums (encL l), true) := by
  obtain ⟨h1, h2⟩ := h
  obtain ⟨a, b⟩ := (list_l0 l (by omega) l.length 0 ⟨#[]⟩ (by omega) (by omega) (by rw [show (⟨#[]⟩ : ByteArray).size = 0 from rfl]; omega)).1 (by simpa using h2) k (by omega)
  have e : (⟨#[]⟩ : ByteArray) ++ strOfNums (encL l) = strOfNums (encL l) := by
    apply ByteArray.ext
    simp
  rw [List.drop_zero, e] at a b
  unfold impl_SdnvList.f spec_SdnvList.f
  rw [if_neg (by omega)]
  refine ⟨a, ?_⟩
  rw [if_neg (by omega)] at b
  exact b
theorem list_no (l : List Int) (hn : l.length ≤ 400) (h : ¬ okL l) (k : Nat) (hk : 1000 < k) : impl_SdnvList.f k l = some (⟨#[]⟩, false) ∧ spec_SdnvList.f k l = some (⟨#[]⟩, false) := by
  unfold impl_SdnvList.f spec_SdnvList.f
  have g := list_l0 l hn l.length 0 ⟨#[]⟩ (by omega) (by omega) (by rw [show (⟨#[]⟩ : ByteArray).size = 0 from rfl]; omega)
  by_cases c : (l.length : Int) > 40
  · rw [if_pos c]
    refine ⟨rfl, ?_⟩
    by_cases c2 : ∀ v ∈ l.drop 0, okV v
    · have := (g.1 c2 k (by omega)).2
      rw [if_pos c] at this
      exact this
    · exact (g.2 c2 k (by omega)).2
  · rw [if_neg c]
    exact g.2 (fun c2 => h ⟨by omega, by simpa using c2⟩) k (by omega)

/-! Reading one number: with at most f bytes left, behind a value of a. -/
def tk : Nat → Int → List Int → Option (Int × Nat)
  | _, _, [] => none
  | 0, _, _ :: _ => none
  | f + 1, a, b :: s => if b < 128 then (if a * 128 + b % 128 ≤ 1000000000 then some (a * 128 + b % 128, 1) else none) else (tk f (a * 128 + b % 128) s).map fun r => (r.1, r.2 + 1)
def tkS (s : List Int) : Option (Int × Nat) := match s with
  | [] => none
  | b :: s => if b = 128 then none else tk 5 0 (b :: s)
theorem tk_big (f : Nat) : ∀ (a : Int) (s : List Int), a > 1000000000 → tk f a s = none := by
  induction f with
  | zero => intro a s h; cases s <;> rfl
  | succ f ih =>
    intro a s h
    cases s with
    | nil => rfl
    | cons b s =>
      simp only [tk]
      by_cases c : b < 128
      · rw [if_pos c, if_neg (by omega)]
      · rw [if_neg c, ih _ _ (by omega)]
        rfl
/-- What is read was written so. -/
theorem tk_sound (f : Nat) : ∀ (a : Int) (s : List Int) (v : Int) (c : Nat), 0 ≤ a → (∀ y ∈ s, 0 ≤ y ∧ y < 256) → (a > 0 ∨ ∀ b t, s = b :: t → b ≠ 128) → tk f a s = some (v, c) →
    1 ≤ c ∧ c ≤ f ∧ c ≤ s.length ∧ okV v ∧ hiE a ++ s.take c = enc v := by
  induction f with
  | zero => intro a s v c _ _ _ h; cases s <;> simp [tk] at h
  | succ f ih =>
    intro a s v c h0 hb hz h
    cases s with
    | nil => simp [tk] at h
    | cons b s =>
      have hb0 := hb b List.mem_cons_self
      simp only [tk] at h
      by_cases c1 : b < 128
      · rw [if_pos c1] at h
        by_cases c2 : a * 128 + b % 128 ≤ 1000000000
        · rw [if_pos c2] at h
          simp only [Option.some.injEq, Prod.mk.injEq] at h
          obtain ⟨rfl, rfl⟩ := h
          refine ⟨by omega, by omega, by simp, ⟨by omega, c2⟩, ?_⟩
          unfold enc
          rw [show (a * 128 + b % 128) / 128 = a by omega, show (a * 128 + b % 128) % 128 = b by omega]
          rfl
        · rw [if_neg c2] at h
          cases h
      · rw [if_neg c1] at h
        cases hr : tk f (a * 128 + b % 128) s with
        | none => rw [hr] at h; cases h
        | some r =>
          obtain ⟨v', c'⟩ := r
          rw [hr] at h
          simp only [Option.map_some, Option.some.injEq, Prod.mk.injEq] at h
          obtain ⟨rfl, rfl⟩ := h
          have hp : a * 128 + b % 128 > 0 := by
            rcases hz with hz | hz
            · omega
            · have := hz b s rfl
              omega
          obtain ⟨i1, i2, i3, i4, i5⟩ := ih _ s v' c' (by omega) (fun y hy => hb y (List.mem_cons_of_mem _ hy)) (Or.inl hp) hr
          refine ⟨by omega, by omega, by simp; omega, i4, ?_⟩
          rw [← i5, hiE_pos _ hp, show (a * 128 + b % 128) / 128 = a by omega, show (a * 128 + b % 128) % 128 + 128 = b by omega]
          simp
/-- What was written is read so. -/
theorem tk_hi (m : Nat) : ∀ (n : Int) (f : Nat) (t : List Int), 0 ≤ n → n < 128 ^ m → tk (f + (hiE n).length) 0 (hiE n ++ t) = (tk f n t).map fun r => (r.1, r.2 + (hiE n).length) := by
  induction m with
  | zero =>
    intro n f t h0 h1
    have : n = 0 := by simp at h1; omega
    subst this
    rw [hiE_zero 0 (by omega)]
    simp
  | succ m ih =>
    intro n f t h0 h1
    by_cases hz : n > 0
    · have e := ih (n / 128) (f + 1) ((n % 128 + 128) :: t) (by omega) (by rw [Int.pow_succ] at h1; omega)
      rw [hiE_pos n hz]
      simp only [List.length_append, List.length_cons, List.length_nil, List.append_assoc, List.cons_append, List.nil_append]
      rw [show f + ((hiE (n / 128)).length + (0 + 1)) = f + 1 + (hiE (n / 128)).length by omega, e]
      simp only [tk]
      rw [if_neg (by omega), show n / 128 * 128 + (n % 128 + 128) % 128 = n by omega]
      cases tk f n t with
      | none => rfl
      | some r => simp; omega
    · have : n = 0 := by omega
      subst this
      rw [hiE_zero 0 (by omega)]
      simp
theorem hiE_head (m : Nat) : ∀ (n : Int) (t : List Int), 0 ≤ n → n < 128 ^ m → n > 0 → ∃ b s, hiE n ++ t = b :: s ∧ b ≠ 128 := by
  induction m with
  | zero => intro n t h0 h1 h2; simp at h1; omega
  | succ m ih =>
    intro n t h0 h1 h2
    rw [hiE_pos n h2, List.append_assoc]
    by_cases hz : n / 128 > 0
    · exact ih (n / 128) _ (by omega) (by rw [Int.pow_succ] at h1; omega) hz
    · rw [hiE_zero _ hz]
      exact ⟨_, _, rfl, by omega⟩
theorem tkS_enc (v : Int) (h : okV v) (t : List Int) : tkS (enc v ++ t) = some (v, (enc v).length) := by
  have hb : v / 128 < 128 ^ 4 := by unfold okV at h; omega
  have h0 : 0 ≤ v / 128 := by unfold okV at h; omega
  have hl := hiE_len 4 (v / 128) h0 hb
  have e1 : enc v ++ t = hiE (v / 128) ++ (v % 128 :: t) := by simp [enc]
  have e2 : (enc v).length = (hiE (v / 128)).length + 1 := by simp [enc]
  have key : tk 5 0 (hiE (v / 128) ++ (v % 128 :: t)) = some (v, (hiE (v / 128)).length + 1) := by
    have := tk_hi 4 (v / 128) (5 - (hiE (v / 128)).length) (v % 128 :: t) h0 hb
    rw [show 5 - (hiE (v / 128)).length + (hiE (v / 128)).length = 5 by omega] at this
    rw [this]
    obtain ⟨f, hf⟩ : ∃ f, 5 - (hiE (v / 128)).length = f + 1 := ⟨4 - (hiE (v / 128)).length, by omega⟩
    rw [hf]
    simp only [tk]
    have hv := h.2
    rw [if_pos (by omega), show v / 128 * 128 + v % 128 % 128 = v by omega, if_pos hv]
    simp
    omega
  rw [e1, e2]
  by_cases hz : v / 128 > 0
  · obtain ⟨b, s, eb, hb8⟩ := hiE_head 4 (v / 128) (v % 128 :: t) h0 hb hz
    rw [eb] at key ⊢
    simp only [tkS]
    rw [if_neg hb8]
    exact key
  · rw [hiE_zero _ hz] at key ⊢
    simp only [List.nil_append] at key ⊢
    simp only [tkS]
    rw [if_neg (by omega)]
    exact key
theorem tkS_sound (s : List Int) (hb : ∀ y ∈ s, 0 ≤ y ∧ y < 256) (v : Int) (c : Nat) (h : tkS s = some (v, c)) : 1 ≤ c ∧ c ≤ s.length ∧ okV v ∧ s.take c = enc v := by
  cases s with
  | nil => cases h
  | cons b s =>
    simp only [tkS] at h
    by_cases c1 : b = 128
    · rw [if_pos c1] at h; cases h
    · rw [if_neg c1] at h
      obtain ⟨h1, _, h3, h4, h5⟩ := tk_sound 5 0 (b :: s) v c (by omega) hb (Or.inr fun b' t e => by cases e; exact c1) h
      rw [hiE_zero 0 (by omega)] at h5
      exact ⟨h1, h3, h4, h5⟩
/-- What a reader answers at the place p. -/
def ans (p : Nat) (r : Option (Int × Nat)) : Int × Int × Bool := match r with
  | none => (0, 0, false)
  | some (v, c) => (v, (p : Int) + c, true)
theorem ans_map (p : Nat) (r : Option (Int × Nat)) : ans p (r.map fun x => (x.1, x.2 + 1)) = ans (p + 1) r := by
  cases r with
  | none => rfl
  | some x => simp [ans]; omega
theorem rdD (l : List Int) (i : Nat) (h : i < l.length) : ∃ b, rd l (i : Int) = b ∧ l.drop i = b :: l.drop (i + 1) := ⟨_, rfl, dropInt l i h⟩
theorem itake_l0 (x : ByteArray) (hx : x.size ≤ 400) (f : Nat) : ∀ (q : Nat) (a : Int), q ≤ x.size → 0 ≤ a → a ≤ 1000000000 → ((f = 5 ∧ a = 0 ∧ ∀ b t, (nm x).drop q = b :: t → b ≠ 128) ∨ 268435456 ≤ a * 128 ^ f) → ∀ k, 402 - q < k →
    impl_TakeSdnv.l0 k x a (q : Int) = some (ans q (tk f a ((nm x).drop q))) := by
  induction f with
  | zero =>
    intro q a hq h0 h1 hf k hk
    obtain ⟨k, rfl⟩ : ∃ m, k = m + 1 := ⟨k - 1, by omega⟩
    have hf' : 268435456 ≤ a := by
      rcases hf with hf | hf
      · omega
      · simpa using hf
    have e0 : tk 0 a ((nm x).drop q) = none := by cases (nm x).drop q <;> rfl
    rw [e0, impl_TakeSdnv.l0]
    by_cases c : q < x.size
    · have hb := nm_byte x _ (rd_mem (nm x) (q : Int) (by omega) (by rw [nm_length]; omega))
      rw [if_pos (by omega), if_pos (by omega), bt_nm, andb127 _ hb.1 hb.2, wrap_in (x := 128 * a) (by omega) (by omega), wrap_in (x := rd (nm x) (q : Int) % 128) (by omega) (by omega), wrap_in (by omega) (by omega), if_pos (by omega)]
      rfl
    · rw [if_neg (by omega)]
      rfl
  | succ f ih =>
    intro q a hq h0 h1 hf k hk
    obtain ⟨k, rfl⟩ : ∃ m, k = m + 1 := ⟨k - 1, by omega⟩
    rw [impl_TakeSdnv.l0]
    by_cases c : q < x.size
    · have hb := nm_byte x _ (rd_mem (nm x) (q : Int) (by omega) (by rw [nm_length]; omega))
      obtain ⟨b, eb, ed⟩ := rdD (nm x) q (by rw [nm_length]; exact c)
      rw [if_pos (by omega), if_pos (by omega), bt_nm, andb127 _ hb.1 hb.2, wrap_in (x := 128 * a) (by omega) (by omega), wrap_in (x := rd (nm x) (q : Int) % 128) (by omega) (by omega), wrap_in (by omega) (by omega), wrap_succ (n := x.size) c (by omega), ed]
      rw [eb] at hb ⊢
      simp only [tk]
      rw [show a * 128 + b % 128 = 128 * a + b % 128 by omega]
      by_cases c1 : 128 * a + b % 128 > 1000000000
      · rw [if_pos c1]
        by_cases c2 : b < 128
        · rw [if_pos c2, if_neg (by omega)]
          rfl
        · rw [if_neg c2, tk_big f _ _ c1]
          rfl
      · rw [if_neg c1]
        by_cases c2 : b < 128
        · rw [if_pos c2, if_pos c2, if_pos (by omega)]
          simp [ans]
        · rw [if_neg c2, if_neg c2, ans_map]
          refine ih (q + 1) _ (by omega) (by omega) (by omega) (Or.inr ?_) k (by omega)
          rcases hf with ⟨hf5, ha0, hn⟩ | hf
          · have hf4 : f = 4 := by omega
            have hb1 := hn b _ ed
            subst hf4
            subst ha0
            omega
          · have h2 : a * 128 ^ (f + 1) = (128 * a) * 128 ^ f := by rw [Int.pow_succ, Int.mul_comm (128 ^ f) 128, ← Int.mul_assoc, Int.mul_comm a 128]
            have h3 : (128 * a) * 128 ^ f ≤ (128 * a + b % 128) * 128 ^ f := Int.mul_le_mul_of_nonneg_right (by omega) (Int.le_of_lt (Int.pow_pos (by decide)))
            omega
    · rw [if_neg (by omega), List.drop_of_length_le (by rw [nm_length]; omega)]
      rfl
theorem itake_is (x : ByteArray) (hx : x.size ≤ 400) (q : Nat) (hq : q < x.size) (k : Nat) (hk : 1000 < k) : impl_TakeSdnv.f k x (q : Int) = some (ans q (tkS ((nm x).drop q))) := by
  obtain ⟨k, rfl⟩ : ∃ m, k = m + 1 := ⟨k - 1, by omega⟩
  obtain ⟨b, eb, ed⟩ := rdD (nm x) q (by rw [nm_length]; exact hq)
  unfold impl_TakeSdnv.f impl_within.f
  rw [if_neg (by omega), wrap_in (by omega) (by omega), if_pos (by omega), decide_eq_true (by omega)]
  simp only [Option.bind_some, if_true, impl_TakeSdnv.j0]
  rw [if_pos (by omega), if_pos (by omega), bt_nm, eb]
  by_cases c : b = 128
  · subst c
    rw [if_pos (by simp), ed]
    rfl
  · rw [if_neg (by simpa using c), itake_l0 x hx 5 q 0 (by omega) (by omega) (by omega) (Or.inl ⟨rfl, rfl, fun b' t e => by rw [ed] at e; cases e; exact c⟩) k (by omega), ed]
    simp only [tkS]
    rw [if_neg c]
/-- One byte, where the number goes on: the reference's step. -/
theorem stake_j2 (x : ByteArray) (p : Int) (q : Nat) (a : Int) (b : Int) (eb : rd (nm x) (q : Int) = b) (hq : q < x.size) (hx : x.size ≤ 400) (h0 : 0 ≤ a) (h1 : a ≤ 1000000000000000) (k : Nat) :
    spec_l1Take.j2 (k + 1) x p a (q : Int) false = if b < 128 then some (if a * 128 + b % 128 ≤ 1000000000 then (a * 128 + b % 128, (q : Int) + 1, true) else (0, 0, false)) else spec_l1Take.l0 k x p (a * 128 + b % 128) ((q + 1 : Nat) : Int) := by
  have hb := nm_byte x _ (rd_mem (nm x) (q : Int) (by omega) (by rw [nm_length]; omega))
  rw [spec_l1Take.j2, if_neg (by decide), if_pos (by omega), if_pos (by omega), bt_nm, andb127 _ hb.1 hb.2, eb]
  rw [eb] at hb
  rw [wrap_in (x := a * 128) (by omega) (by omega), wrap_in (x := b % 128) (by omega) (by omega), or128 a (b % 128) h0 h1 (by omega) (by omega), svalue_is, wrap_succ (n := x.size) hq (by omega)]
  by_cases c : b < 128
  · rw [if_pos c, if_pos c]
    simp only [Option.bind_some, decide_eq_true_eq]
    by_cases c2 : a * 128 + b % 128 ≤ 1000000000
    · rw [if_pos (by omega), if_pos c2]
      simp
    · rw [if_neg (by omega), if_neg c2]
  · rw [if_neg c, if_neg c]
theorem stake_l0 (x : ByteArray) (hx : x.size ≤ 400) (p : Nat) (f : Nat) : ∀ (q : Nat) (a : Int), p < q → q ≤ x.size → f + q = p + 5 → 0 ≤ a → a < 128 ^ (5 - f) → ∀ k, 3 * f + 3 < k →
    spec_l1Take.l0 k x (p : Int) a (q : Int) = some (ans q (tk f a ((nm x).drop q))) := by
  induction f with
  | zero =>
    intro q a hp hq hf h0 h1 k hk
    obtain ⟨k, rfl⟩ : ∃ m, k = m + 2 := ⟨k - 2, by omega⟩
    have e0 : tk 0 a ((nm x).drop q) = none := by cases (nm x).drop q <;> rfl
    rw [e0, spec_l1Take.l0, wrap_in (by omega) (by omega), decide_eq_false (by omega)]
    by_cases c : (q : Int) < (x.size : Int)
    · rw [if_pos c, spec_l1Take.j1, if_neg (by decide)]
      rfl
    · rw [if_neg c, spec_l1Take.j1, if_neg (by decide)]
      rfl
  | succ f ih =>
    intro q a hp hq hf h0 h1 k hk
    have ha : a ≤ 1000000000000 := by
      have : (128 : Int) ^ (5 - (f + 1)) ≤ 128 ^ 5 := by
        have := Nat.pow_le_pow_right (n := 128) (by decide) (show 5 - (f + 1) ≤ 5 by omega)
        exact_mod_cast this
      omega
    obtain ⟨k, rfl⟩ : ∃ m, k = m + 3 := ⟨k - 3, by omega⟩
    rw [spec_l1Take.l0, wrap_in (by omega) (by omega), decide_eq_true (by omega)]
    by_cases c : q < x.size
    · obtain ⟨b, eb, ed⟩ := rdD (nm x) q (by rw [nm_length]; exact c)
      have hb := nm_byte x _ (rd_mem (nm x) (q : Int) (by omega) (by rw [nm_length]; omega))
      rw [eb] at hb
      rw [if_pos (by omega), spec_l1Take.j1, if_pos rfl, if_neg (by omega), stake_j2 x p q a b eb c hx h0 (by omega) k, ed]
      simp only [tk]
      by_cases c2 : b < 128
      · rw [if_pos c2, if_pos c2]
        by_cases c3 : a * 128 + b % 128 ≤ 1000000000
        · rw [if_pos c3, if_pos c3]
          rfl
        · rw [if_neg c3, if_neg c3]
          rfl
      · rw [if_neg c2, if_neg c2, ans_map]
        refine ih (q + 1) _ (by omega) (by omega) (by omega) (by omega) ?_ k (by omega)
        rw [show 5 - f = (5 - (f + 1)) + 1 by omega, Int.pow_succ]
        omega
    · rw [if_neg (by omega), spec_l1Take.j1, if_neg (by decide), List.drop_of_length_le (by rw [nm_length]; omega)]
      rfl
theorem stake_is (x : ByteArray) (hx : x.size ≤ 400) (q : Nat) (hq : q < x.size) (k : Nat) (hk : 1000 < k) : spec_l1Take.f k x (q : Int) = some (ans q (tkS ((nm x).drop q))) := by
  obtain ⟨k, rfl⟩ : ∃ m, k = m + 3 := ⟨k - 3, by omega⟩
  obtain ⟨b, eb, ed⟩ := rdD (nm x) q (by rw [nm_length]; exact hq)
  have hb := nm_byte x _ (rd_mem (nm x) (q : Int) (by omega) (by rw [nm_length]; omega))
  rw [eb] at hb
  unfold spec_l1Take.f
  rw [spec_l1Take.l0, if_pos (by omega), wrap_in (by omega) (by omega), decide_eq_true (by omega), spec_l1Take.j1, if_pos rfl, if_pos rfl, if_pos (by omega), if_pos (by omega), bt_nm, eb, ed]
  simp only [tkS]
  by_cases c : b = 128
  · subst c
    rw [if_pos rfl, spec_l1Take.j2, if_pos (by simp)]
    rfl
  · rw [if_neg c, show (b == 128) = false by simpa using c, stake_j2 x q q 0 b eb hq hx (by omega) (by omega) k]
    simp only [tk]
    by_cases c2 : b < 128
    · rw [if_pos c2, if_pos c2]
      by_cases c3 : 0 * 128 + b % 128 ≤ 1000000000
      · rw [if_pos c3, if_pos c3]
        rfl
      · rw [if_neg c3, if_neg c3]
        rfl
    · rw [if_neg c2, if_neg c2, ans_map]
      exact stake_l0 x hx q 4 (q + 1) _ (by omega) (by omega) (by omega) (by omega) (by omega) k (by omega)
/-! Reading all of a text. -/
theorem sread_long (x : ByteArray) (hx : x.size ≤ 400) (d : Nat) : ∀ (q : Nat) (acc : List Int), x.size - q ≤ d → acc.length > 40 → acc.length + d ≤ 1000 → ∀ k, 1001 + d < k → spec_ReadSdnvs.l0 k x acc (q : Int) = some ([], false) := by
  induction d with
  | zero =>
    intro q acc hd ha hb k hk
    obtain ⟨k, rfl⟩ : ∃ m, k = m + 1 := ⟨k - 1, by omega⟩
    rw [spec_ReadSdnvs.l0, if_neg (by omega), if_pos (by omega)]
  | succ d ih =>
    intro q acc hd ha hb k hk
    obtain ⟨k, rfl⟩ : ∃ m, k = m + 1 := ⟨k - 1, by omega⟩
    rw [spec_ReadSdnvs.l0]
    by_cases c : q < x.size
    · rw [if_pos (by omega), stake_is x hx q c k (by omega)]
      cases ht : tkS ((nm x).drop q) with
      | none => simp [ans]
      | some r =>
        obtain ⟨v, n⟩ := r
        obtain ⟨h1, h2, h3, h4⟩ := tkS_sound _ (fun y hy => nm_byte x y (List.mem_of_mem_drop hy)) v n ht
        simp only [ans, Option.bind_some, if_true]
        rw [if_pos (by omega), show (q : Int) + n = ((q + n : Nat) : Int) by omega]
        exact ih (q + n) _ (by omega) (by simp; omega) (by simp; omega) k (by omega)
    · rw [if_neg (by omega), if_pos (by omega)]
/-- What both readers answer: alike; and what was read was written so. -/
theorem read_l0 (x : ByteArray) (hx : x.size ≤ 400) (d : Nat) : ∀ (q : Nat) (acc : List Int), x.size - q ≤ d → q ≤ x.size → acc.length ≤ 40 → (∀ v ∈ acc, okV v) →
    ∃ (r : List Int) (ok : Bool), (ok = true → r.length ≤ 40 ∧ (∀ v ∈ r, okV v) ∧ encL r = encL acc ++ (nm x).drop q) ∧ (ok = false → r = []) ∧
      ∀ k, 2000 + d < k → impl_ReadSdnvs.l0 k x acc (q : Int) = some (r, ok) ∧ spec_ReadSdnvs.l0 k x acc (q : Int) = some (r, ok) := by
  induction d with
  | zero =>
    intro q acc hd hq ha hv
    refine ⟨acc, true, fun _ => ⟨ha, hv, by rw [List.drop_of_length_le (by rw [nm_length]; omega), List.append_nil]⟩, (by simp), fun k hk => ?_⟩
    obtain ⟨k, rfl⟩ : ∃ m, k = m + 1 := ⟨k - 1, by omega⟩
    rw [spec_ReadSdnvs.l0, impl_ReadSdnvs.l0, if_neg (by omega), if_neg (by omega), if_neg (by omega)]
    exact ⟨rfl, rfl⟩
  | succ d ih =>
    intro q acc hd hq ha hv
    by_cases c : q < x.size
    · cases ht : tkS ((nm x).drop q) with
      | none =>
        refine ⟨[], false, by simp, fun _ => rfl, fun k hk => ?_⟩
        obtain ⟨k, rfl⟩ : ∃ m, k = m + 1 := ⟨k - 1, by omega⟩
        rw [spec_ReadSdnvs.l0, impl_ReadSdnvs.l0, if_pos (by omega), if_pos (by omega), stake_is x hx q c k (by omega), itake_is x hx q c k (by omega), ht]
        simp [ans]
      | some r =>
        obtain ⟨v, n⟩ := r
        obtain ⟨h1, h2, h3, h4⟩ := tkS_sound _ (fun y hy => nm_byte x y (List.mem_of_mem_drop hy)) v n ht
        rw [List.length_drop, nm_length] at h2
        by_cases c2 : acc.length = 40
        · refine ⟨[], false, by simp, fun _ => rfl, fun k hk => ?_⟩
          obtain ⟨k, rfl⟩ : ∃ m, k = m + 1 := ⟨k - 1, by omega⟩
          rw [spec_ReadSdnvs.l0, impl_ReadSdnvs.l0, if_pos (by omega), if_pos (by omega), stake_is x hx q c k (by omega), itake_is x hx q c k (by omega), ht]
          simp only [ans, Option.bind_some, if_true]
          rw [if_pos (by omega), if_pos (by omega), show (q : Int) + n = ((q + n : Nat) : Int) by omega]
          exact ⟨rfl, sread_long x hx 400 (q + n) _ (by omega) (by simp; omega) (by simp; omega) k (by omega)⟩
        · obtain ⟨r, ok, g1, g2, g3⟩ := ih (q + n) (acc ++ [v]) (by omega) (by omega) (by simp; omega) (fun w hw => by
            rcases List.mem_append.mp hw with hw | hw
            · exact hv w hw
            · rw [show w = v by simpa using hw]; exact h3)
          refine ⟨r, ok, fun e => ?_, g2, fun k hk => ?_⟩
          · obtain ⟨f1, f2, f3⟩ := g1 e
            refine ⟨f1, f2, ?_⟩
            rw [f3, show encL (acc ++ [v]) = encL acc ++ enc v by simp [encL], ← h4, List.append_assoc]
            congr 1
            have := List.take_append_drop n ((nm x).drop q)
            rw [List.drop_drop] at this
            exact this
          · obtain ⟨k, rfl⟩ : ∃ m, k = m + 1 := ⟨k - 1, by omega⟩
            obtain ⟨i1, i2⟩ := g3 k (by omega)
            rw [spec_ReadSdnvs.l0, impl_ReadSdnvs.l0, if_pos (by omega), if_pos (by omega), stake_is x hx q c k (by omega), itake_is x hx q c k (by omega), ht]
            simp only [ans, Option.bind_some, if_true]
            rw [if_neg (by omega), if_pos (by omega), show (q : Int) + n = ((q + n : Nat) : Int) by omega, if_pos (by omega)]
            exact ⟨i1, i2⟩
    · refine ⟨acc, true, fun _ => ⟨ha, hv, by rw [List.drop_of_length_le (by rw [nm_length]; omega), List.append_nil]⟩, (by simp), fun k hk => ?_⟩
      obtain ⟨k, rfl⟩ : ∃ m, k = m + 1 := ⟨k - 1, by omega⟩
      rw [spec_ReadSdnvs.l0, impl_ReadSdnvs.l0, if_neg (by omega), if_neg (by omega), if_neg (by omega)]
      exact ⟨rfl, rfl⟩
theorem read_both (x : ByteArray) : ∃ (r : List Int) (ok : Bool), (ok = true → okL r ∧ encL r = nm x) ∧ (ok = false → r = []) ∧ ∀ k, 3000 < k → impl_ReadSdnvs.f k x = some (r, ok) ∧ spec_ReadSdnvs.f k x = some (r, ok) := by
  unfold impl_ReadSdnvs.f spec_ReadSdnvs.f
  by_cases c : (x.size : Int) > 400
  · refine ⟨[], false, by simp, fun _ => rfl, fun k _ => ?_⟩
    rw [if_pos c, if_pos c]
    exact ⟨rfl, rfl⟩
  · obtain ⟨r, ok, h1, h2, h3⟩ := read_l0 x (by omega) 400 0 [] (by omega) (by omega) (by simp) (by simp)
    refine ⟨r, ok, fun e => ?_, h2, fun k hk => ?_⟩
    · obtain ⟨g1, g2, g3⟩ := h1 e
      exact ⟨⟨g1, g2⟩, by simpa [encL] using g3⟩
    · rw [if_neg c, if_neg c]
      exact h3 k (by omega)
/-- What was written is read back. -/
theorem read_back (l : List Int) (h : okL l) (k : Nat) (hk : 3000 < k) : impl_ReadSdnvs.f k (strOfNums (encL l)) = some (l, true) := by
  have hL := encL_len l h.2
  have hl := h.1
  have hs : (strOfNums (encL l)).size ≤ 400 := by rw [str_size]; omega
  have hn : nm (strOfNums (encL l)) = encL l := nm_str _ (encL_byte l h.2)
  have key : ∀ (d i q : Nat), l.length - i = d → i ≤ l.length → (encL l).drop q = encL (l.drop i) → q ≤ (encL l).length → ∀ k, 2000 + d < k → impl_ReadSdnvs.l0 k (strOfNums (encL l)) (l.take i) (q : Int) = some (l, true) := by
    intro d
    induction d with
    | zero =>
      intro i q hd hi he hq k hk
      obtain ⟨k, rfl⟩ : ∃ m, k = m + 1 := ⟨k - 1, by omega⟩
      rw [List.drop_of_length_le (l := l) (by omega)] at he
      have hq2 : (encL l).length ≤ q := by
        have := congrArg List.length he
        rw [List.length_drop] at this
        simp [encL] at this ⊢
        omega
      rw [impl_ReadSdnvs.l0, str_size, if_neg (by omega), List.take_of_length_le (by omega)]
    | succ d ih =>
      intro i q hd hi he hq k hk
      obtain ⟨k, rfl⟩ : ∃ m, k = m + 1 := ⟨k - 1, by omega⟩
      have hv := h.2 _ (rd_mem l (i : Int) (by omega) (by omega))
      obtain ⟨v, ev, ed⟩ := rdD l i (by omega)
      rw [ev] at hv
      rw [ed, encL_cons] at he
      have hlen := enc_len v hv
      have hq2 : q + (enc v).length ≤ (encL l).length := by
        have := congrArg List.length he
        rw [List.length_drop, List.length_append] at this
        omega
      rw [impl_ReadSdnvs.l0, str_size, if_pos (by omega), itake_is _ hs q (by rw [str_size]; omega) k (by omega), hn, he, tkS_enc v hv]
      simp only [ans, Option.bind_some, if_true]
      rw [List.length_take, if_neg (by omega), if_pos (by omega), show (q : Int) + ((enc v).length : Nat) = ((q + (enc v).length : Nat) : Int) by omega]
      have et : l.take i ++ [v] = l.take (i + 1) := by
        rw [← ev]
        unfold rd
        rw [List.take_add_one, show ((i : Int)).toNat = i from rfl, List.getD_eq_getElem?_getD, List.getElem?_eq_getElem (show i < l.length by omega)]
        rfl
      rw [et]
      refine ih (i + 1) _ (by omega) (by omega) ?_ hq2 k (by omega)
      rw [← List.drop_drop, he, List.drop_left]
  unfold impl_ReadSdnvs.f
  rw [if_neg (by omega)]
  have := key l.length 0 0 (by omega) (by omega) (by simp) (by omega) k (by omega)
  simpa using this

theorem number_ok (l : List Int) (hl : ∀ x ∈ l, (Lit.int .u8 x).wf = true) (at_ u : Int) (h0 : 0 ≤ at_) (h1 : at_ ≤ 1000000000000) :
    ∃ r at' u', spec_l1Cur_number.f l at_ u = some (r, at', u') ∧ at_ ≤ at' ∧ at' ≤ at_ + 4 := by
  unfold spec_l1Cur_number.f
  obtain ⟨r, a, u1, e, _, _, _, g1, g2⟩ := pick_ok l hl at_ u 5 h0 (by omega)
  rw [e]
  simp only [Option.bind_some]
  by_cases c : r = 0
  · rw [if_pos c]
    obtain ⟨r2, a2, u2, e2, _, g3, g4⟩ := among_ok l hl a u1 [-1, 0, 127, 128, 16383, 16384, 1000000000, 1000000001] (by decide) (by omega) (by omega)
    rw [e2]
    exact ⟨_, _, _, rfl, by simp only; omega, by simp only; omega⟩
  · rw [if_neg c]
    by_cases c2 : r = 1
    · rw [if_pos c2]
      obtain ⟨r2, a2, u2, e2, _, _, _, g3, g4⟩ := pick_ok l hl a u1 100000 (by omega) (by omega)
      rw [e2]
      exact ⟨_, _, _, rfl, by simp only; omega, by simp only; omega⟩
    · rw [if_neg c2]
      obtain ⟨r2, a2, u2, e2, _, _, _, g3, g4⟩ := pick_ok l hl a u1 200 (by omega) (by omega)
      rw [e2]
      exact ⟨_, _, _, rfl, by simp only; omega, by simp only; omega⟩
theorem numbers_l0 (l : List Int) (hl : ∀ x ∈ l, (Lit.int .u8 x).wf = true) (d : Nat) : ∀ (acc : List Int) (at_ u : Int), 0 ≤ at_ → at_ + 10 * d ≤ 1000000000 → acc.length + d ≤ 1000 →
    ∃ r at' u', r.length = acc.length + d ∧ at_ ≤ at' ∧ at' ≤ at_ + 10 * d ∧ ∀ k, d < k → spec_l1Cur_numbers.l0 k acc (d : Int) l at_ u = some (r, at', u') := by
  induction d with
  | zero =>
    intro acc at_ u h0 h1 h2
    refine ⟨acc, at_, u, by simp, by omega, by omega, fun k hk => ?_⟩
    obtain ⟨k, rfl⟩ : ∃ m, k = m + 1 := ⟨k - 1, by omega⟩
    rw [spec_l1Cur_numbers.l0, if_neg (by omega)]
  | succ d ih =>
    intro acc at_ u h0 h1 h2
    obtain ⟨r, a, u1, e, g1, g2⟩ := number_ok l hl at_ u h0 (by omega)
    have go : ∀ (v : Int) (a2 u2 : Int), at_ ≤ a2 → a2 ≤ at_ + 10 → ∃ r at' u', r.length = acc.length + (d + 1) ∧ at_ ≤ at' ∧ at' ≤ at_ + 10 * (d + 1 : Nat) ∧ ∀ k, d < k → spec_l1Cur_numbers.l0 k (acc ++ [v]) (wrap64 (((d + 1 : Nat) : Int) - 1)) l a2 u2 = some (r, at', u') := fun v a2 u2 k1 k2 => by
      obtain ⟨r, at', u', q1, q2, q3, q4⟩ := ih (acc ++ [v]) a2 u2 (by omega) (by omega) (by simp; omega)
      rw [wrap_in (by omega) (by omega), show ((d + 1 : Nat) : Int) - 1 = (d : Int) by omega]
      exact ⟨r, at', u', by rw [q1]; simp; omega, by omega, by omega, q4⟩
    by_cases c : decide (0 ≤ r ∧ r ≤ 1000000000) = true
    · obtain ⟨r', at', u', q1, q2, q3, q4⟩ := go r a u1 (by omega) (by omega)
      refine ⟨r', at', u', q1, q2, q3, fun k hk => ?_⟩
      obtain ⟨k, rfl⟩ : ∃ m, k = m + 1 := ⟨k - 1, by omega⟩
      rw [spec_l1Cur_numbers.l0, if_pos (by omega), e]
      simp only [Option.bind_some, svalue_is]
      rw [if_pos c, if_pos (by omega)]
      exact q4 k (by omega)
    · obtain ⟨b, a2, u2, e2, g3, g4⟩ := one_ok l hl a u1 4 (by omega) (by omega)
      cases b with
      | true =>
        obtain ⟨r', at', u', q1, q2, q3, q4⟩ := go r a2 u2 (by omega) (by omega)
        refine ⟨r', at', u', q1, q2, q3, fun k hk => ?_⟩
        obtain ⟨k, rfl⟩ : ∃ m, k = m + 1 := ⟨k - 1, by omega⟩
        rw [spec_l1Cur_numbers.l0, if_pos (by omega), e]
        simp only [Option.bind_some, svalue_is]
        rw [if_neg c, e2]
        simp only [Option.bind_some, if_true]
        rw [if_pos (by omega)]
        exact q4 k (by omega)
      | false =>
        obtain ⟨r', at', u', q1, q2, q3, q4⟩ := go 5 a2 u2 (by omega) (by omega)
        refine ⟨r', at', u', q1, q2, q3, fun k hk => ?_⟩
        obtain ⟨k, rfl⟩ : ∃ m, k = m + 1 := ⟨k - 1, by omega⟩
        rw [spec_l1Cur_numbers.l0, if_pos (by omega), e]
        simp only [Option.bind_some, svalue_is]
        rw [if_neg c, e2]
        simp only [Option.bind_some, Bool.false_eq_true, if_false]
        rw [if_pos (by omega)]
        exact q4 k (by omega)
theorem numbers_ok (l : List Int) (hl : ∀ x ∈ l, (Lit.int .u8 x).wf = true) : ∃ r at' u', r.length ≤ 41 ∧ 0 ≤ at' ∧ at' ≤ 1000 ∧ ∀ k, 1000 < k → spec_l1Cur_numbers.f k l 0 0 = some (r, at', u') := by
  unfold spec_l1Cur_numbers.f
  obtain ⟨n, a, u1, e, n0, n1, _, g1, g2⟩ := pick_ok l hl 0 0 6 (by omega) (by omega)
  obtain ⟨b, a2, u2, e2, g3, g4⟩ := one_ok l hl a u1 30 (by omega) (by omega)
  rw [e]
  simp only [Option.bind_some]
  rw [e2]
  cases b with
  | true =>
    obtain ⟨m, a3, u3, e3, m0, m1, _, g5, g6⟩ := pick_ok l hl a2 u2 2 (by omega) (by omega)
    obtain ⟨d, rfl⟩ : ∃ d : Nat, m = d := ⟨m.toNat, by omega⟩
    obtain ⟨r, at', u', q1, q2, q3, q4⟩ := numbers_l0 l hl (40 + d) [] a3 u3 (by omega) (by omega) (by simp; omega)
    refine ⟨r, at', u', by rw [q1]; simp; omega, by omega, by omega, fun k hk => ?_⟩
    obtain ⟨k, rfl⟩ : ∃ m, k = m + 1 := ⟨k - 1, by omega⟩
    simp only [Option.bind_some, if_true]
    rw [e3]
    simp only [Option.bind_some]
    rw [wrap_in (by omega) (by omega), spec_l1Cur_numbers.j0, show (40 : Int) + (d : Int) = ((40 + d : Nat) : Int) by omega]
    exact q4 k (by omega)
  | false =>
    obtain ⟨d, rfl⟩ : ∃ d : Nat, n = d := ⟨n.toNat, by omega⟩
    obtain ⟨r, at', u', q1, q2, q3, q4⟩ := numbers_l0 l hl d [] a2 u2 (by omega) (by omega) (by simp; omega)
    refine ⟨r, at', u', by rw [q1]; simp; omega, by omega, by omega, fun k hk => ?_⟩
    obtain ⟨k, rfl⟩ : ∃ m, k = m + 1 := ⟨k - 1, by omega⟩
    simp only [Option.bind_some, Bool.false_eq_true, if_false]
    rw [spec_l1Cur_numbers.j0]
    exact q4 k (by omega)
theorem ext_size (x : ByteArray) (a b : Nat) : (x.extract a b).size ≤ x.size := by
  rw [ByteArray.size_extract]
  omega
theorem spoilt_l0 (l : List Int) (hl : ∀ x ∈ l, (Lit.int .u8 x).wf = true) (y : ByteArray) (hy : y.size = 4) (d : Nat) : ∀ (x : ByteArray) (at_ u : Int), x.size + d ≤ 100000 → 0 ≤ at_ → at_ + 10 * d ≤ 1000000000 →
    ∃ r at' u', ∀ k, 2 * d + 2 < k → spec_l1Cur_spoilt.l0 k x y (d : Int) l at_ u = some (r, at', u') := by
  induction d with
  | zero =>
    intro x at_ u hx h0 h1
    refine ⟨x, at_, u, fun k hk => ?_⟩
    obtain ⟨k, rfl⟩ : ∃ m, k = m + 1 + 1 := ⟨k - 2, by omega⟩
    rw [spec_l1Cur_spoilt.l0, if_neg (by omega), spec_l1Cur_spoilt.j1, if_neg (by decide)]
  | succ d ih =>
    intro x at_ u hx h0 h1
    by_cases c : (x.size : Int) > 0
    · obtain ⟨p, a1, u1, e1, p0, p1, _, g1, g2⟩ := pick_ok l hl at_ u (x.size : Int) h0 (by omega)
      obtain ⟨q, a2, u2, e2, q0, q1, _, g3, g4⟩ := pick_ok l hl a1 u1 (y.size : Int) (by omega) (by omega)
      obtain ⟨s, a3, u3, e3, s0, s1, _, g5, g6⟩ := pick_ok l hl a2 u2 3 (by omega) (by omega)
      have hs1 : (strOfNums [bt y q]).size = 1 := by rw [str_size]; rfl
      have z1 := ext_size x 0 p.toNat
      have z2 := ext_size x p.toNat x.size
      have z3 := ext_size x (p + 1).toNat x.size
      have z0 : (x.extract 0 p.toNat).size = p.toNat := by rw [ByteArray.size_extract]; omega
      have z4 : (x.extract p.toNat x.size).size = x.size - p.toNat := by rw [ByteArray.size_extract]; omega
      have z5 : (x.extract (p + 1).toNat x.size).size = x.size - (p + 1).toNat := by rw [ByteArray.size_extract]; omega
      have go : ∀ x' : ByteArray, x'.size ≤ x.size + 1 → ∃ r at' u', ∀ k, 2 * d + 2 < k → spec_l1Cur_spoilt.l0 k x' y (wrap64 (((d + 1 : Nat) : Int) - 1)) l a3 u3 = some (r, at', u') := fun x' hx' => by
        rw [wrap_in (by omega) (by omega), show ((d + 1 : Nat) : Int) - 1 = (d : Int) by omega]
        exact ih x' a3 u3 (by omega) (by omega) (by omega)
      have pre : ∀ k, spec_l1Cur_spoilt.l0 (k + 2) x y ((d + 1 : Nat) : Int) l at_ u = spec_l1Cur_spoilt.j1 (k + 1) x y ((d + 1 : Nat) : Int) true l at_ u := fun k => by
        rw [spec_l1Cur_spoilt.l0, if_pos (by omega), decide_eq_true c]
      by_cases c1 : s = 0
      · obtain ⟨r, at', u', hr⟩ := go ((x.extract 0 p.toNat ++ strOfNums [bt y q]) ++ x.extract p.toNat x.size) (by rw [ByteArray.size_append, ByteArray.size_append, hs1]; omega)
        refine ⟨r, at', u', fun k hk => ?_⟩
        obtain ⟨k, rfl⟩ : ∃ m, k = m + 2 := ⟨k - 2, by omega⟩
        rw [pre, spec_l1Cur_spoilt.j1, if_pos rfl, e1]
        simp only [Option.bind_some]
        rw [e2]
        simp only [Option.bind_some]
        rw [if_pos q0, if_pos (by omega), e3]
        simp only [Option.bind_some]
        rw [if_pos c1, if_pos p0, if_pos (by omega), if_pos (by omega), if_pos (by rw [ByteArray.size_append]; omega)]
        exact hr k (by omega)
      · by_cases c2 : s = 1
        · obtain ⟨r, at', u', hr⟩ := go ((x.extract 0 p.toNat ++ strOfNums [bt y q]) ++ x.extract (p + 1).toNat x.size) (by rw [ByteArray.size_append, ByteArray.size_append, hs1]; omega)
          refine ⟨r, at', u', fun k hk => ?_⟩
          obtain ⟨k, rfl⟩ : ∃ m, k = m + 2 := ⟨k - 2, by omega⟩
          rw [pre, spec_l1Cur_spoilt.j1, if_pos rfl, e1]
          simp only [Option.bind_some]
          rw [e2]
          simp only [Option.bind_some]
          rw [if_pos q0, if_pos (by omega), e3]
          simp only [Option.bind_some]
          rw [if_neg c1, if_pos c2, if_pos p0, if_pos (by omega), if_pos (by omega), wrap_in (x := p + 1) (by omega) (by omega), if_pos (by omega), if_pos (by omega), if_pos (by rw [ByteArray.size_append]; omega)]
          exact hr k (by omega)
        · obtain ⟨r, at', u', hr⟩ := go (x.extract 0 p.toNat ++ x.extract (p + 1).toNat x.size) (by rw [ByteArray.size_append]; omega)
          refine ⟨r, at', u', fun k hk => ?_⟩
          obtain ⟨k, rfl⟩ : ∃ m, k = m + 2 := ⟨k - 2, by omega⟩
          rw [pre, spec_l1Cur_spoilt.j1, if_pos rfl, e1]
          simp only [Option.bind_some]
          rw [e2]
          simp only [Option.bind_some]
          rw [if_pos q0, if_pos (by omega), e3]
          simp only [Option.bind_some]
          rw [if_neg c1, if_neg c2, if_pos p0, if_pos (by omega), wrap_in (x := p + 1) (by omega) (by omega), if_pos (by omega), if_pos (by omega), if_pos (by omega)]
          exact hr k (by omega)
    · refine ⟨x, at_, u, fun k hk => ?_⟩
      obtain ⟨k, rfl⟩ : ∃ m, k = m + 2 := ⟨k - 2, by omega⟩
      rw [spec_l1Cur_spoilt.l0, if_pos (by omega), decide_eq_false c, spec_l1Cur_spoilt.j1, if_neg (by decide)]
theorem spoilt_ok (l : List Int) (hl : ∀ x ∈ l, (Lit.int .u8 x).wf = true) (x y : ByteArray) (hy : y.size = 4) (at_ u : Int) (hx : x.size ≤ 10000) (h0 : 0 ≤ at_) (h1 : at_ ≤ 1000000) : ∃ r at' u', ∀ k, 1000 < k → spec_l1Cur_spoilt.f k l at_ u x y = some (r, at', u') := by
  unfold spec_l1Cur_spoilt.f
  obtain ⟨n, a, u1, e, n0, n1, _, g1, g2⟩ := pick_ok l hl at_ u 3 (by omega) (by omega)
  obtain ⟨d, rfl⟩ : ∃ d : Nat, n = d := ⟨n.toNat, by omega⟩
  obtain ⟨r, at', u', hr⟩ := spoilt_l0 l hl y hy d x a u1 (by omega) (by omega) (by omega)
  refine ⟨r, at', u', fun k hk => ?_⟩
  rw [e]
  exact hr k (by omega)
theorem drawread_ok (l : List Int) (hl : ∀ x ∈ l, (Lit.int .u8 x).wf = true) : ∃ t : ByteArray, ∀ k, 5000 < k → spec_DrawReadSdnvs.f k l = some t := by
  obtain ⟨v, a, u, hv, a0, a1, hk⟩ := numbers_ok l hl
  obtain ⟨b, a2, u2, e2, g3, g4⟩ := one_ok l hl a u 3 (by omega) (by omega)
  obtain ⟨x, ok, hx, hxs⟩ : ∃ (x : ByteArray) (ok : Bool), (∀ k, 1000 < k → spec_SdnvList.f k v = some (x, ok)) ∧ x.size ≤ 10000 := by
    by_cases c : okL v
    · refine ⟨_, _, fun k hk => (list_yes v c k hk).2, ?_⟩
      have := encL_len v c.2
      have := c.1
      rw [str_size]
      omega
    · exact ⟨_, _, fun k hk => (list_no v (by omega) c k hk).2, by decide⟩
  cases b with
  | true =>
    obtain ⟨r, a3, u3, hr⟩ := spoilt_ok l hl x ⟨#[0, 128, 255, 1]⟩ rfl a2 u2 hxs (by omega) (by omega)
    refine ⟨r, fun k hk' => ?_⟩
    unfold spec_DrawReadSdnvs.f
    rw [hk k (by omega)]
    simp only [Option.bind_some]
    rw [hx k (by omega)]
    simp only [Option.bind_some]
    rw [e2]
    simp only [Option.bind_some, if_true]
    rw [hr k (by omega)]
    rfl
  | false =>
    refine ⟨x, fun k hk' => ?_⟩
    unfold spec_DrawReadSdnvs.f
    rw [hk k (by omega)]
    simp only [Option.bind_some]
    rw [hx k (by omega)]
    simp only [Option.bind_some]
    rw [e2]
    simp
theorem same_l0 (l : List Int) (hn : l.length ≤ 1000) (d : Nat) : ∀ (k i : Nat), l.length - i = d → d < k → laws_sameInts.l0 k l l (l.length : Int) (i : Int) = some true := by
  induction d with
  | zero =>
    intro k i hd hk
    obtain ⟨k, rfl⟩ : ∃ m, k = m + 1 := ⟨k - 1, by omega⟩
    rw [laws_sameInts.l0, if_neg (by omega)]
  | succ d ih =>
    intro k i hd hk
    obtain ⟨k, rfl⟩ : ∃ m, k = m + 1 := ⟨k - 1, by omega⟩
    rw [laws_sameInts.l0, if_pos (by omega), if_pos (by omega), if_pos (by omega), if_pos (by omega), if_pos rfl, wrap_succ (n := l.length) (by omega) (by omega)]
    exact ih k (i + 1) (by omega) (by omega)
theorem same_is (l : List Int) (hn : l.length ≤ 1000) (k : Nat) (hk : 1000 < k) : laws_sameInts.f k l l = some true := by
  unfold laws_sameInts.f
  rw [if_pos rfl]
  exact same_l0 l hn l.length k 0 (by omega) (by omega)
theorem law_j4 (l : List Int) (hl : ∀ x ∈ l, (Lit.int .u8 x).wf = true) (k : Nat) (hk : 5001 < k) : laws_FnSdnv.j4 k l = some true := by
  obtain ⟨k, rfl⟩ : ∃ m, k = m + 1 := ⟨k - 1, by omega⟩
  obtain ⟨t, ht⟩ := drawread_ok l hl
  obtain ⟨r, ok, h1, h2, h3⟩ := read_both t
  obtain ⟨i1, i2⟩ := h3 k (by omega)
  have hr : r.length ≤ 1000 := by
    cases ok with
    | true => have := (h1 rfl).1.1; omega
    | false => rw [h2 rfl]; simp
  rw [laws_FnSdnv.j4, ht k (by omega)]
  simp only [Option.bind_some]
  rw [i1, i2]
  simp only [Option.bind_some, bne_self_eq_false, Bool.false_eq_true, if_false]
  rw [same_is r hr k (by omega)]
  simp only [Option.bind_some, if_true]
  cases ok with
  | true =>
    obtain ⟨g1, g2⟩ := h1 rfl
    have e : strOfNums (encL r) = t := nm_inj (by rw [nm_str _ (encL_byte r g1.2), g2])
    rw [(list_yes r g1 k (by omega)).1, e]
    simp
  | false =>
    rw [h2 rfl, (list_yes [] ⟨by simp, by simp⟩ k (by omega)).1]
    rfl
theorem sdnvOf_is (v : Int) (h : okV v) (k : Nat) (hk : 100 < k) : impl_SdnvOf.f k v = some (strOfNums (enc v), true) := by
  unfold impl_SdnvOf.f
  rw [ivalue_is, show decide (0 ≤ v ∧ v ≤ 1000000000) = true from decide_eq_true h, isdnv_is v h k hk]
  rfl
theorem law_l0 (m : List Int) (hm : ∀ x ∈ m, (Lit.int .u8 x).wf = true) (l : List Int) (h : okL l) (d : Nat) : ∀ (i q : Nat), l.length - i = d → i ≤ l.length → (encL l).drop q = encL (l.drop i) → q ≤ (encL l).length → ∀ k, 6000 + 2 * d < k →
    laws_FnSdnv.l0 k m (strOfNums (encL l)) (q : Int) l (l.length : Int) (i : Int) = some true := by
  have hL := encL_len l h.2
  have hl := h.1
  have hs : (strOfNums (encL l)).size ≤ 400 := by rw [str_size]; omega
  have hn : nm (strOfNums (encL l)) = encL l := nm_str _ (encL_byte l h.2)
  induction d with
  | zero =>
    intro i q hd hi he hq k hk
    obtain ⟨k, rfl⟩ : ∃ m, k = m + 1 := ⟨k - 1, by omega⟩
    rw [List.drop_of_length_le (l := l) (by omega)] at he
    have hq2 : (encL l).length ≤ q := by
      have := congrArg List.length he
      rw [List.length_drop] at this
      simp [encL] at this ⊢
      omega
    rw [laws_FnSdnv.l0, if_neg (by omega), str_size, if_pos (by omega)]
    exact law_j4 m hm k (by omega)
  | succ d ih =>
    intro i q hd hi he hq k hk
    obtain ⟨k, rfl⟩ : ∃ m, k = m + 1 + 1 := ⟨k - 2, by omega⟩
    have hv := h.2 _ (rd_mem l (i : Int) (by omega) (by omega))
    obtain ⟨v, ev, ed⟩ := rdD l i (by omega)
    have hv2 := hv
    rw [ev] at hv2
    rw [ed, encL_cons] at he
    have hlen := enc_len v hv2
    have hq2 : q + (enc v).length ≤ (encL l).length := by
      have := congrArg List.length he
      rw [List.length_drop, List.length_append] at this
      omega
    have ex : (strOfNums (encL l)).extract q (q + (enc v).length) = strOfNums (enc v) := by
      have e1 : encL l = (encL l).take q ++ (enc v ++ encL (l.drop (i + 1))) := by rw [← he, List.take_append_drop]
      apply nm_inj
      rw [nm_str _ (enc_byte v hv2)]
      have : nm ((strOfNums (encL l)).extract q (q + (enc v).length)) = ((nm (strOfNums (encL l))).drop q).take (enc v).length := by
        unfold nm
        simp [ByteArray.data_extract, List.map_take, List.map_drop, List.extract_eq_drop_take']
      rw [this, hn, he, List.take_left]
    rw [laws_FnSdnv.l0, if_pos (by omega), if_pos (by omega), if_pos (by omega), ev, sdnvOf_is v hv2 _ (by omega)]
    rw [Option.bind_some, if_pos rfl]
    dsimp only
    rw [str_size, str_size, wrap_in (x := (q : Int) + ((enc v).length : Nat)) (by omega) (by omega), if_pos (by omega), if_pos (by omega), if_pos (by omega), show ((q : Int)).toNat = q from rfl, show ((q : Int) + ((enc v).length : Nat)).toNat = q + (enc v).length by omega, ex, if_pos rfl, decide_eq_false (by omega), laws_FnSdnv.j3, if_neg (by decide), str_size, if_pos (by omega), itake_is _ hs q (by rw [str_size]; omega) k (by omega), hn, he, tkS_enc v hv2]
    rw [Option.bind_some, if_pos (show (ans q (some (v, (enc v).length))).2.2 = true from rfl), if_pos (show (ans q (some (v, (enc v).length))).1 = v from rfl), show (ans q (some (v, (enc v).length))).2.1 = (q : Int) + ((enc v).length : Nat) from rfl]
    rw [str_size, wrap_in (x := (q : Int) + ((enc v).length : Nat)) (by omega) (by omega), if_pos rfl, wrap_succ (n := l.length) (by omega) (by omega), show (q : Int) + ((enc v).length : Nat) = ((q + (enc v).length : Nat) : Int) by omega]
    refine ih (i + 1) _ (by omega) (by omega) ?_ hq2 k (by omega)
    rw [← List.drop_drop, he, List.drop_left]
theorem FnSdnv : laws_FnSdnv.Stmt := by
  intro code more ⟨hc, hcb⟩ ⟨hm, hmb⟩
  refine ⟨10000, ?_⟩
  unfold laws_FnSdnv.f
  by_cases c : wrap64 ((code.length : Int) + (more.length : Int)) > 1048576
  · rw [if_pos c]
  · rw [if_neg c]
    obtain ⟨v, a, u, hv, _, _, hk⟩ := numbers_ok code hcb
    unfold spec_DrawSdnvList.f
    rw [hk 10000 (by omega)]
    simp only [Option.bind_some]
    by_cases g : okL v
    · rw [(list_yes v g 10000 (by omega)).1, (list_yes v g 10000 (by omega)).2]
      have hL := encL_len v g.2
      have := g.1
      simp only [Option.bind_some, bne_self_eq_false, Bool.false_eq_true, if_false, laws_FnSdnv.j0, if_true]
      rw [str_size, if_pos (by omega), read_back v g _ (by omega)]
      simp only [Option.bind_some, if_true]
      rw [same_is v (by omega) _ (by omega)]
      simp only [Option.bind_some, if_true, laws_FnSdnv.j1]
      exact law_l0 more hmb v g v.length 0 0 (by omega) (by omega) (by simp) (by omega) _ (by omega)
    · rw [(list_no v (by omega) g 10000 (by omega)).1, (list_no v (by omega) g 10000 (by omega)).2]
      simp only [Option.bind_some, bne_self_eq_false, Bool.false_eq_true, if_false, laws_FnSdnv.j0]
      exact law_j4 more hmb _ (by omega)

end Go.Proofs.Ytnphabcbnpenjaa.Pure
